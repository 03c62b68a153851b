import Derived.Test.YtemmlkadbaajcaaGreatVPFacts
open Nat
open List hiding mem_of_getElem?
open Array hiding mem_of_getElem? mk
set_option linter.unusedSimpArgs false
set_option linter.unusedVariables false
set_option maxRecDepth 4000
set_option maxHeartbeats 1000000
namespace Go.Proofs.YtemmlkadbaajcaaGreat
open K Go Go.Proofs
def iQ(k:Nat)(a0:ab)(y4:Int):Nat->Int->Option (Except Bool Unit)
 |0,_=>none
 |n+1,c=>
  (aH a0.2.2.2.2.1 y4).bind λl=>
  if c < (l.length:Int) then((aH a0.2.2.2.2.1 y4).bind λj=>
  (aH j c).bind λh=>
  if 20 < (h.length:Int) then(some (.error true)) else((ck (c+1)).bind λe=>
  iQ k a0 y4 n e)) else(some (.ok ()))
def iR(k:Nat)(a0:ab):Nat->Int->Option (Except Bool Unit)
 |0,_=>none
 |n+1,y4=>
  ((if y4 < (a0.2.2.2.2.1.length:Int) then(some (decide (y4 < 20))) else(some false)):Option (Bool)).bind λx6=>
  if x6=true then(bE (α:=Unit) ((aH a0.2.2.2.2.1 y4).bind λh=>
  if 20 < (h.length:Int) then(some (.error true)) else(iQ k a0 y4 k 0)) (λe=>some (.error e)) λ_=>
  (ck (y4+1)).bind λc=>
  iR k a0 n c) else(some (.ok ()))
def qc(k:Nat)(a0:ab):Option Bool:=
 bE (α:=Unit) (iR k a0 k 0) (some) λ_=>
 ((if 20 < (a0.2.2.2.2.1.length:Int) then(some true) else(some (decide (20 < (a0.2.2.2.2.2.length:Int))))):Option (Bool)).bind λc=>
 some c
theorem Cm(k:Nat)(a0:ab)(r:Bool)(h:qc k a0=some r):
 cX Tryz.prog 5 [.rep am a0] [] (λ_:Unit=>(bz [.eq (.bool r)],[])):=by
 unfold qc at h
 replace h:=aW h
 refine cX.of 53 Tryz.func5 rfl Tryz.ntmps5 rfl λS w0=>?_
 refine sr ?_
 refine bx λb1=>?_
 refine cq ?_
 refine nt ?_
 refine cO (Z:=Unit) (α:=Unit) (λz3 x2=>[(1,Pt b1)]) (λz3 x2=>[.obj b1 25 (.rep am a0)]) (λe=>e=r) h (λe h=>Option.some.inj h) (λK hR h=>?_) (λz3 x2 h=>?_)
 .
  refine sr (cq (nt (ah ?_)));refine aE (λz5 y4=>[(1,Pt b1),(3,I y4)]) (λz5 y4=>[.obj b1 25 (.rep am a0)]) (iR k a0) k () 0 (λ_=>rfl) h (SE.fin [0] ⟨rfl,rfl,trivial⟩ rfl) (λn z5 y4 h=>?_);unfold iR at h;refine ai (aC (Z:=Unit) (α:=Bool) (λz7 x6=>[(1,Pt b1),(3,I y4),(13,.eq (.bool x6))]) (λz7 x6=>[.obj b1 25 (.rep am a0)]) h (λK h=>?_) (λz7 x6 h=>?_))
  .refine ae (mq ?_);refine fl bW ?_;refine lo fq ?_;refine ol pq ?_;refine jb (bj rfl) ?_;refine mq ?_;refine bU (s:=10) rfl (λhb=>?_) (λhb=>?_)
   .replace h:=dO (uE hb) h;refine gm ?_;refine gb (bj rfl) ?_;refine pt (nl ?_);exact jz ((),decide (y4 < 20)) h [0]
   .replace h:=bZ (uF hb) h;iterate 2 refine gn ?_
    refine pf (nl ?_);exact jz ((),false) h [0]
  .refine cv h (λh=>?_) (λh=>?_)
   .refine sk (cO (Z:=Unit) (α:=Unit) (λz9 x8=>[(1,Pt b1),(3,I y4)]) (λz9 x8=>[.obj b1 25 (.rep am a0)]) (λe=>e=r) h (λe h=>hR e h) (λK hR h=>?_) (λz9 x8 h=>?_))
    .refine ah (ai (sr (fl bW ?_)));refine lo fq ?_;refine mq ?_;obtain⟨Y,J,h⟩:=aa h;refine jb (ay (t:=(.slice Tl)) rfl pq kB J) ?_;refine ja (ak (t:=(.slice Tl)) rfl kB rfl) ?_;refine ol nk ?_;refine jb (iM rfl) ?_;refine nt (ci h (λh=>?_) (λh=>?_))
     .refine sr (cq (nt (rx (br (aX (bg ?_))))));obtain rfl:=hR _ h;exact ra
     .refine sk (sr (cq (nt (ah ?_))));refine aE (λu c=>[(1,Pt b1),(3,I y4),(4,I c)]) (λu c=>[.obj b1 25 (.rep am a0)]) (iQ k a0 y4) k () 0 (λ_=>rfl) h (SE.fin [0] ⟨rfl,rfl,rfl,trivial⟩ rfl) (λn u c h=>?_);unfold iQ at h;refine ai (sr (mq ?_));refine fl bW ?_;refine lo fq ?_;refine mq ?_;obtain⟨X,F,h⟩:=aa h;refine jb (ay (t:=(.slice Tl)) rfl pq kB F) ?_;refine ja (ak (t:=(.slice Tl)) rfl kB rfl) ?_;refine ol nk ?_;refine jb (bj rfl) ?_;refine nt (ci h (λh=>?_) (λh=>?_))
      .refine sk (ai (ah (sr (fl bW ?_))));refine lo fq ?_;refine mq ?_;obtain⟨U,E,h⟩:=aa h;refine jb (ay (t:=(.slice Tl)) rfl pq kB E) ?_;refine ja (ak (t:=(.slice Tl)) rfl kB rfl) ?_;refine mq ?_;obtain⟨Q,D,h⟩:=aa h;refine jb (ay (t:=Tl) rfl nk ew D) ?_;refine ja (ak (t:=Tl) rfl ew rfl) ?_;refine ol fD ?_;refine jb (iM rfl) ?_;refine nt (ci h (λh=>?_) (λh=>?_))
       .refine sr (cq (nt (aD (br (aX (br (aX (bg ?_))))))));obtain rfl:=hR _ h;exact ra
       .refine ba (aI (tn (ae (mq ?_))));obtain⟨O,y,h⟩:=aa h;refine jb (bh rfl y) ?_;refine aq (nl ?_);exact jz ((),O) h [0]
      .refine f9 (bO (bO (c9 (bn ?_))));exact jz ((),()) h [0]
    .refine ae (mq ?_);obtain⟨M,x,h⟩:=aa h;refine jb (bh rfl x) ?_;refine aq (nl ?_);exact jz ((),M) h [0]
   .refine xa ?_;exact jz ((),()) h [0]
 .
  refine aC (Z:=Unit) (α:=Bool) (λl j=>[(2,.eq (.bool j))]) (λl j=>[]) h (λK h=>?_) (λl j h=>?_)
  .refine ae (fl bW ?_);refine lo fq ?_;refine ol pq ?_;refine jb (iM rfl) ?_;refine mq ?_;refine bU (s:=47) rfl (λhb=>?_) (λhb=>?_)
   .replace h:=dO (uE hb) h;iterate 4 refine gn ?_
    refine pt ?_;refine aq (nl ?_);exact jz ((),true) h []
   .replace h:=bZ (uF hb) h;refine ga (av rfl fH) ?_;refine fe rfl rfl rfl rfl rfl rfl (ao rfl nh jQ rfl) ⟨rfl,trivial⟩ ?_;refine ga (o8 rfl rfl DI) ?_;refine gb (iM rfl) ?_;refine pf ?_;refine aq (nl ?_);exact jz ((),decide (20 < (a0.2.2.2.2.2.length:Int))) h []
  .refine aD ?_;cases h;exact ra
def fW(k:Nat)(a0:Int)(a1:Int):Option Bool:=
 (bV (0≤a1)).bind λ_=>
 some (decide ((sd .u8 (jt .u8 a0 a1) 1)=1))
theorem iO(k:Nat)(a0:Int)(a1:Int)(r:Bool)(h:fW k a0 a1=some r):
 cX Tryz.prog 66 [.eq (.int .u8 a0),I a1] [] (λ_:Unit=>(bz [.eq (.bool r)],[])):=by
 unfold fW at h
 replace h:=aW h
 refine cX.of 10 Tryz.func66 rfl Tryz.ntmps66 rfl λS w0=>?_
 refine sr ?_
 refine cq ?_
 refine nt ?_
 refine sr ?_
 iterate 2 refine mq ?_
 obtain⟨u1,c,h⟩:=aa h
 refine jb (wx rfl (ap c)) ?_
 refine jb (TF rfl) ?_
 refine jb (jO rfl) ?_
 refine aq ?_
 refine nt ?_
 refine aD ?_
 cases h
 exact ra
def cU(k:Nat)(a0:ab)(a1:Int):Nat->((List Int)×Int)->Option (List Int)
 |0,_=>none
 |n+1,y5=>
  if y5.2 < 5 then((((bV (0≤y5.2/\y5.2 < 5)).bind λ_=>
  (fW k a1 y5.2).bind λe=>
  if e=true then((bV (0≤y5.2/\y5.2 < 5)).bind λ_=>
  some (List.set (List.set y5.1 (Int.toNat y5.2) (-1:Int)) (Int.toNat y5.2) a0.2.1)) else(some (List.set y5.1 (Int.toNat y5.2) (-1:Int)))):Option ((List Int))).bind λx7=>
  (ck (y5.2+1)).bind λc=>
  cU k a0 a1 n (x7,c)) else(some y5.1)
def fK(k:Nat)(a0:ab)(a1:Int):Option (List Int):=
 ((cU k a0 a1 k ([0,0,0,0,0],0)):Option ((List Int))).bind λx3=>
 some x3
theorem rS{M:Md Tryz.prog}{bm:Nat}{c0 c1 c2 c3 c4 c5:Value}(hK:Kn M bm 0 [c0,c1,c2,c3,c4,c5])(k:Nat)(a0:ab)(a1:Int)(r:(List Int))(h:fK k a0 a1=some r):
 cC M 83 [.rep (.mo (Pv bm) [c0,c1,c2,c3,c4,c5] am) a0,.eq (.int .u8 a1)] [] (λ_:Unit=>(bz [.rep Tr r],[])):=by
 unfold fK at h
 replace h:=aW h
 refine cC.of 24 Tryz.func83 rfl Tryz.ntmps83 rfl λS w0=>?_
 refine sr ?_
 refine bf rfl rfl rfl (bA rfl E8 Gs) trivial λb1=>?_
 refine nt ?_
 refine sr ?_
 refine bf rfl rfl rfl (bA rfl E8 Gs) trivial λb2=>?_
 refine nt ?_
 refine aC (Z:=Unit) (α:=(List Int)) (λz4 x3=>[(4,Pt b1),(5,Pt b2)]) (λz4 x3=>[.obj b1 104 (.rep Tr [0,0,0,0,0]),.obj b2 104 (.rep Tr x3)]) h (λK h=>?_) (λz4 x3 h=>?_)
 .
  refine sr (fF rfl ?_);refine nt (ah (aE (λz6 y5=>[(0,.rep (.mo (Pv bm) [c0,c1,c2,c3,c4,c5] am) a0),(1,.eq (.int .u8 a1)),(4,Pt b1),(5,Pt b2),(7,I y5.2)]) (λz6 y5=>[.obj b1 104 (.rep Tr [0,0,0,0,0]),.obj b2 104 (.rep Tr y5.1)]) (cU k a0 a1) k () ([0,0,0,0,0],0) (λ_=>rfl) h (SE.fin [1,0] ⟨rfl,rfl,rfl,rfl,rfl,trivial⟩ rfl) (λn z6 y5 h=>?_)));unfold cU at h;refine sr (jb (bj rfl) ?_);refine nt (ai (ci h (λh=>?_) (λh=>?_)))
  .refine sk (aC (Z:=Unit) (α:=(List Int)) (λz8 x7=>[(0,.rep (.mo (Pv bm) [c0,c1,c2,c3,c4,c5] am) a0),(1,.eq (.int .u8 a1)),(4,Pt b1),(5,Pt b2),(7,I y5.2)]) (λz8 x7=>[.obj b1 104 (.rep Tr [0,0,0,0,0]),.obj b2 104 (.rep Tr x7)]) h (λK h=>?_) (λz8 x7 h=>?_))
   .refine ah (sr (mq ?_));refine aq (nt (sr ?_));refine mq ?_;obtain⟨u9,e,h⟩:=aa h;refine jb (eN rfl sG bJ (ap e).1 (ap e).2) ?_;refine fr 1 ?_;refine aS rfl rfl (iL (t:=Ti) (off:=0) (i:=y5.2) (N:=5) rfl bJ .int rfl rfl rfl rfl (ap e).1 (ap e).2 rfl) ⟨rfl,rfl,trivial⟩ ?_;refine nt (sr ?_);iterate 2 refine mq ?_
    obtain⟨u,l,h⟩:=aa h;refine jb (au [.tmp 12,.tmp 13] rfl rfl KN rfl (iO k a1 y5.2 u l)) ?_;refine nt (cv h (λh=>?_) (λh=>?_))
    .refine ae ?_;iterate 2 refine mq ?_
     refine ja (mL rfl) ?_;refine ja (iN rfl i9) ?_;refine ja (jJ 1 false rfl oV rfl rfl) ?_;refine ja (kF (t:=Ti) rfl bJ (hK.sub 1 1 rfl (le_of_ble_eq_true rfl)) rfl rfl) ?_;obtain⟨x,c,h⟩:=aa h;refine jb (eN rfl sG bJ (ap c).1 (ap c).2) ?_;refine aS rfl rfl (iL (t:=Ti) (off:=0) (i:=y5.2) (N:=5) rfl bJ .int rfl rfl rfl rfl (ap c).1 (ap c).2 rfl) ⟨rfl,rfl,trivial⟩ ?_;refine aG (bn ?_);exact jz ((),List.set (List.set y5.1 (Int.toNat y5.2) (-1:Int)) (Int.toNat y5.2) a0.2.1) h [1,0]
    .refine ba (bn ?_);exact jz ((),List.set y5.1 (Int.toNat y5.2) (-1:Int)) h [1,0]
   .refine ae ?_;obtain⟨s,j,h⟩:=aa h;refine jb (bh rfl j) ?_;refine mq (nl ?_);exact jz ((),(x7,s)) h [0,1]
  .refine xa ?_;exact jz ((),y5.1) h [0,1]
 .
  refine sr (fr 1 ?_);refine lo gh ?_;refine fr 1 ?_;refine aS rfl rfl (aN rfl gh rfl rfl rfl) ⟨rfl,rfl,trivial⟩ ?_;refine nt (aD ?_);obtain rfl:=Option.some.inj h;exact aV () [.rep Tr x3] 0 ⟨⟨_,_,_,_,_,rfl,(.head _),gh,(oM),rfl⟩,trivial⟩ rfl
def dG(k:Nat)(a0:(List Int))(a1:Int):Nat->Int->Option (Except Int Unit)
 |0,_=>none
 |n+1,y3=>
  if y3 < (a0.length:Int) then((aH a0 y3).bind λx5=>
  if a1=x5 then(some (.error y3)) else((ck (y3+1)).bind λx6=>
  dG k a0 a1 n x6)) else(some (.ok ()))
def ir(k:Nat)(a0:(List Int))(a1:Int):Option Int:=
 bE (α:=Unit) (dG k a0 a1 k 0) (some) λ_=>
 some (-1:Int)
theorem oa(k:Nat)(a0:(List Int))(a1:Int)(r:Int)(h:ir k a0 a1=some r):
 cX Tryz.prog 63 [.rep Tl a0,I a1] [] (λ_:Unit=>(bz [I r],[])):=by
 unfold ir at h
 replace h:=aW h
 refine cX.of 19 Tryz.func63 rfl Tryz.ntmps63 rfl λS w0=>?_
 refine sr ?_
 refine cq ?_
 refine nt ?_
 refine cO (Z:=Unit) (α:=Unit) (λz2 x1=>[]) (λz2 x1=>[]) (λe=>e=r) h (λe h=>Option.some.inj h) (λK hR h=>?_) (λz2 x1 h=>?_)
 .
  refine sr (mq ?_);refine ol fD ?_;refine fF rfl ?_;refine nt (ah (aE (λz4 y3=>[(0,.rep Tl a0),(1,I a1),(7,I (a0.length:Int)),(8,I y3)]) (λz4 y3=>[]) (dG k a0 a1) k () 0 (λ_=>rfl) h (SE.fin [] ⟨rfl,rfl,rfl,rfl,trivial⟩ rfl) (λn z4 y3 h=>?_)));unfold dG at h;refine sr (jb (bj rfl) ?_);refine nt (ai (ci h (λh=>?_) (λh=>?_)))
  .refine sk (ai (ah (sr (mq ?_))));refine aq (nt (sr ?_));iterate 3 refine mq ?_
   obtain⟨x5,j,h⟩:=aa h;refine jb (ay (t:=Ti) rfl fD bJ j) ?_;refine ja (ak (t:=Ti) rfl bJ rfl) ?_;refine jb (jO rfl) ?_;refine nt (ci h (λh=>?_) (λh=>?_))
   .refine sr (mq ?_);refine aq (nt (aD (br (aX (bg ?_)))));obtain rfl:=hR _ h;exact ra
   .refine ba (aI (tn (ae ?_)));obtain⟨x6,c,h⟩:=aa h;refine jb (bh rfl c) ?_;refine mq (nl ?_);exact jz ((),x6) h []
  .refine xa ?_;exact jz ((),()) h []
 .
  refine sr (cq (nt (aD ?_)));cases h;exact ra
def mi(k:Nat)(a0:Int):Option Bool:=
 some (!decide (a0=a0))
theorem tz(k:Nat)(a0:Int)(r:Bool)(h:mi k a0=some r):
 cX Tryz.prog 158 [I a0] [] (λ_:Unit=>(bz [.eq (.bool r)],[])):=by
 unfold mi at h
 replace h:=aW h
 refine cX.of 6 Tryz.func158 rfl Tryz.ntmps158 rfl λS w0=>?_
 refine sr ?_
 refine cq ?_
 refine nt ?_
 refine sr ?_
 iterate 2 refine mq ?_
 refine jb (dZ rfl) ?_
 refine aq ?_
 refine nt ?_
 refine aD ?_
 cases h
 exact ra
def qi(k:Nat)(a0:Int)(a1:Int):Option Bool:=
 (((mi k a0).bind λr3=>
 if r3=true then((mi k a1).bind λr4=>
 if¬(r4=true) then(some true) else(some (decide (a0 < a1)))) else(some (decide (a0 < a1)))):Option (Bool)).bind λx1=>
 some x1
theorem C0(k:Nat)(a0:Int)(a1:Int)(r:Bool)(h:qi k a0 a1=some r):
 cX Tryz.prog 148 [I a0,I a1] [] (λ_:Unit=>(bz [.eq (.bool r)],[])):=by
 unfold qi at h
 replace h:=aW h
 refine cX.of 17 Tryz.func148 rfl Tryz.ntmps148 rfl λS w0=>?_
 refine sr ?_
 refine cq ?_
 refine nt ?_
 refine aC (Z:=Unit) (α:=Bool) (λz2 x1=>[(4,.eq (.bool x1))]) (λz2 x1=>[]) h (λK h=>?_) (λz2 x1 h=>?_)
 .
  refine ae (mq ?_);obtain⟨r3,e,h⟩:=aa h;refine ja (au [.tmp 5] rfl rfl PR rfl (tz k a0 r3 e)) ?_;refine mq ?_;refine bU (s:=7) rfl (λhb=>?_) (λhb=>?_)
  .replace h:=dO (Ig hb) h;refine gm ?_;obtain⟨r4,c,h⟩:=aa h;refine ga (au [.tmp 8] rfl rfl PR rfl (tz k a1 r4 c)) ?_;refine ga (eS rfl) ?_;refine pt ?_;refine mq ?_;refine bU (s:=12) rfl (λhb=>?_) (λhb=>?_)
   .replace h:=dO (rL hb) h;iterate 3 refine gn ?_
    refine pt ?_;refine aq (nl ?_);exact jz ((),true) h []
   .replace h:=bZ (mM hb) h;refine gm ?_;refine gm ?_;refine gb (bj rfl) ?_;refine pf ?_;refine aq (nl ?_);exact jz ((),decide (a0 < a1)) h []
  .replace h:=bZ (Ih hb) h;iterate 3 refine gn ?_
   refine pf ?_;refine mq ?_;refine gm ?_;refine gm ?_;refine gb (bj rfl) ?_;refine pf ?_;refine aq (nl ?_);exact jz ((),decide (a0 < a1)) h []
 .
  refine aD ?_;cases h;exact ra
def bR(k:Nat)(a1:Int):Nat->((List Int)×Int)->Option (List Int)
 |0,_=>none
 |n+1,y6=>
  ((if a1 < y6.2 then((aH y6.1 y6.2).bind λu=>
  (ck (y6.2 - 1)).bind λs=>
  (aH y6.1 s).bind λr=>
  (qi k u r).bind λx=>
  some x) else(some false)):Option (Bool)).bind λx8=>
  if x8=true then((ck (y6.2 - 1)).bind λe=>
  (ck (y6.2 - 1)).bind λl=>
  (aH y6.1 l).bind λc=>
  (aH y6.1 y6.2).bind λj=>
  (aH y6.1 y6.2).bind λD=>
  (aH (List.set y6.1 (Int.toNat y6.2) c) e).bind λy=>
  (ck (y6.2 - 1)).bind λh=>
  bR k a1 n (List.set (List.set y6.1 (Int.toNat y6.2) c) (Int.toNat e) j,h)) else(some y6.1)
def bB(k:Nat)(a1:Int)(a2:Int):Nat->((List Int)×Int)->Option (List Int)
 |0,_=>none
 |n+1,y2=>
  if y2.2 < a2 then(((bR k a1 k (y2.1,y2.2)):Option ((List Int))).bind λx4=>
  (ck (y2.2+1)).bind λc=>
  bB k a1 a2 n (x4,c)) else(some y2.1)
def cp(k:Nat)(a0:(List Int))(a1:Int)(a2:Int):Option (List Int):=
 (ck (a1+1)).bind λx1=>
 bB k a1 a2 k (a0,x1)
theorem kC(k:Nat)(a0:(List Int))(c:Value)(a1:Int)(a2:Int)(r:(List Int))(h:cp k a0 a1 a2=some r):
 cX Tryz.prog 142 [.eq c,I a1,I a2] [.sl c 3 Ti a0] (λ_:Unit=>(bz [],[.sl c 3 Ti r])):=by
 unfold cp at h
 replace h:=aW h
 refine cX.of 49 Tryz.func142 rfl Tryz.ntmps142 rfl λS w0=>?_
 refine sr ?_
 refine mq ?_
 obtain⟨x1,XL,h⟩:=aa h
 refine jb (bh rfl XL) ?_
 refine aq ?_
 refine nt ?_
 refine ah ?_
 refine aE (λz3 y2=>[(0,.eq c),(1,I a1),(2,I a2),(6,I y2.2)]) (λz3 y2=>[.sl c 3 Ti y2.1]) (bB k a1 a2) k () (a0,x1) (λ_=>rfl) h (SE.fin [0] ⟨rfl,rfl,rfl,rfl,trivial⟩ rfl) (λn z3 y2 h=>?_)
 unfold bB at h
 refine ai ?_
 refine sr ?_
 iterate 2 refine mq ?_
 refine jb (bj rfl) ?_
 refine nt ?_
 refine ci h (λh=>?_) (λh=>?_)
 .
  refine sk (aC (Z:=Unit) (α:=(List Int)) (λz5 x4=>[(0,.eq c),(1,I a1),(2,I a2),(6,I y2.2)]) (λz5 x4=>[.sl c 3 Ti x4]) h (λK h=>?_) (λz5 x4 h=>?_))
  .refine ah (sr (mq ?_));refine aq (nt (ah ?_));refine aE (λz7 y6=>[(0,.eq c),(1,I a1),(2,I a2),(6,I y2.2),(7,I y6.2)]) (λz7 y6=>[.sl c 3 Ti y6.1]) (bR k a1) k () (y2.1,y2.2) (λ_=>rfl) h (SE.fin [0] ⟨rfl,rfl,rfl,rfl,rfl,trivial⟩ rfl) (λn z7 y6 h=>?_);unfold bR at h;refine ai (aC (Z:=Unit) (α:=Bool) (λz9 x8=>[(0,.eq c),(1,I a1),(2,I a2),(6,I y2.2),(7,I y6.2),(30,.eq (.bool x8))]) (λz9 x8=>[.sl c 3 Ti y6.1]) h (λK h=>?_) (λz9 x8 h=>?_))
   .refine bu ?_;refine dm ?_;refine dm ?_;refine db (iM rfl) ?_;refine jH rfl rfl rfl (aK rfl) ⟨rfl,trivial⟩ (λhb=>?_) (λhb=>?_)
    .replace h:=dO (uE hb) h;refine aJ rfl rfl rfl rfl rfl (aK rfl) ⟨rfl,rfl,trivial⟩ ?_;refine aJ rfl rfl rfl rfl rfl (aK rfl) ⟨rfl,rfl,trivial⟩ ?_;obtain⟨XB,x,h⟩:=aa h;refine iD 0 rfl rfl rfl rfl rfl rfl (cP (t:=Ti) rfl fD bJ x) ⟨rfl,rfl,rfl,trivial⟩ ?_;refine iD 0 rfl rfl rfl rfl rfl rfl (iv (i:=Int.toNat y6.2) (off:=0) rfl bJ (λ_=>rfl) rfl (dV x).2.2 rfl) ⟨rfl,rfl,trivial⟩ ?_;refine aJ rfl rfl rfl rfl rfl (aK rfl) ⟨rfl,rfl,trivial⟩ ?_;refine aJ rfl rfl rfl rfl rfl (aK rfl) ⟨rfl,rfl,trivial⟩ ?_;obtain⟨XA,zz,h⟩:=aa h;refine aJ rfl rfl rfl rfl rfl (dR rfl zz) ⟨rfl,rfl,rfl,trivial⟩ ?_;obtain⟨Xz,u,h⟩:=aa h;refine iD 0 rfl rfl rfl rfl rfl rfl (cP (t:=Ti) rfl fD bJ u) ⟨rfl,rfl,rfl,trivial⟩ ?_;refine iD 0 rfl rfl rfl rfl rfl rfl (iv (i:=Int.toNat XA) (off:=0) rfl bJ (λ_=>rfl) rfl (dV u).2.2 rfl) ⟨rfl,rfl,trivial⟩ ?_;refine df bY ?_;obtain⟨F,Xv,h⟩:=aa h;refine gb (au [.tmp 23,.tmp 28] rfl rfl UA rfl (C0 k XB Xz F Xv)) ?_;refine pt (nl ?_);exact jz ((),F) h [0]
    .replace h:=bZ (uF hb) h;iterate 9 refine dg ?_
     refine df bY ?_;refine gn ?_;refine pf (nl ?_);exact jz ((),false) h [0]
   .refine cv h (λh=>?_) (λh=>?_)
    .refine sk (ai (ah (qw ?_)));refine bG rfl rfl rfl (aK rfl) ⟨rfl,trivial⟩ ?_;refine bG rfl rfl rfl (aK rfl) ⟨rfl,trivial⟩ ?_;refine bG rfl rfl rfl (aK rfl) ⟨rfl,trivial⟩ ?_;refine bG rfl rfl rfl (aK rfl) ⟨rfl,trivial⟩ ?_;obtain⟨y,qt,h⟩:=aa h;refine bG rfl rfl rfl (dR rfl qt) ⟨rfl,rfl,trivial⟩ ?_;refine bG rfl rfl rfl (aK rfl) ⟨rfl,trivial⟩ ?_;refine bG rfl rfl rfl (aK rfl) ⟨rfl,trivial⟩ ?_;obtain⟨Xy,mw,h⟩:=aa h;refine bG rfl rfl rfl (dR rfl mw) ⟨rfl,rfl,trivial⟩ ?_;obtain⟨E,s,h⟩:=aa h;refine ji 0 rfl rfl rfl rfl (cP (t:=Ti) rfl fD bJ s) ⟨rfl,rfl,trivial⟩ ?_;refine ji 0 rfl rfl rfl rfl (iv (i:=Int.toNat Xy) (off:=0) rfl bJ (λ_=>rfl) rfl (dV s).2.2 rfl) ⟨rfl,trivial⟩ ?_;refine bG rfl rfl rfl (aK rfl) ⟨rfl,trivial⟩ ?_;refine bG rfl rfl rfl (aK rfl) ⟨rfl,trivial⟩ ?_;obtain⟨D,l,h⟩:=aa h;refine ji 0 rfl rfl rfl rfl (cP (t:=Ti) rfl fD bJ l) ⟨rfl,rfl,trivial⟩ ?_;refine ji 0 rfl rfl rfl rfl (iv (i:=Int.toNat y6.2) (off:=0) rfl bJ (λ_=>rfl) rfl (dV l).2.2 rfl) ⟨rfl,trivial⟩ ?_;obtain⟨XT,j,h⟩:=aa h;refine ji 0 rfl rfl rfl rfl (cP (t:=Ti) rfl fD bJ j) ⟨rfl,rfl,trivial⟩ ?_;refine uQ 15 [true,true,false,false,false,true,true,true,true,true,true,true,true,true,true] [48] [] [] rfl (by kernel_rfl) (by kernel_rfl) (by kernel_rfl) bY (λvs hv hB=>?_);obtain⟨w0,X7,rfl,XK⟩:=aF hv;obtain⟨w1,X6,rfl,XJ⟩:=aF XK;obtain⟨w2,X5,rfl,XI⟩:=aF XJ;obtain⟨w3,X4,rfl,XH⟩:=aF XI;obtain⟨w4,X3,rfl,XG⟩:=aF XH;obtain⟨w5,X2,rfl,XF⟩:=aF XG;obtain⟨w6,X1,rfl,XE⟩:=aF XF;obtain⟨w7,X0,rfl,XD⟩:=aF XE;obtain⟨w8,XZ,rfl,XC⟩:=aF XD;obtain⟨w9,XR,rfl,X⟩:=aF XC;obtain⟨XY,XQ,rfl,U⟩:=aF X;obtain⟨XX,XP,rfl,Q⟩:=aF U;obtain⟨XW,XO,rfl,O⟩:=aF Q;obtain⟨XV,XN,rfl,M⟩:=aF O;obtain⟨XU,XM,rfl,J⟩:=aF M;obtain rfl:=qK J;refine⟨[0],[.sl c 3 Ti y6.1],by kernel_rfl,by decide,?_⟩;refine sH rfl rfl (iK (i:=Int.toNat y6.2) rfl bJ rfl (oR j) rfl .int rfl) ⟨rfl,rfl,trivial⟩ (by kernel_rfl) ?_;obtain⟨XS,e,h⟩:=aa h;refine xt rfl rfl rfl rfl (cP (t:=Ti) rfl fD bJ e) ⟨rfl,rfl,trivial⟩ (by kernel_rfl) ?_;refine sH rfl rfl (iK (i:=Int.toNat y) rfl bJ rfl (oR e) rfl .int rfl) ⟨rfl,rfl,trivial⟩ (by kernel_rfl) ?_;refine xu ?_;refine bv (SE.fin (Γ':=[(0,.eq c),(1,I a1),(2,I a2),(6,I y2.2),(7,I y6.2)]) (Δ':=[.sl c 3 Ti (List.set (List.set y6.1 (Int.toNat y6.2) E) (Int.toNat y) D)]) [0] ⟨rfl,rfl,rfl,rfl,rfl,trivial⟩ rfl) ?_;refine aI (tn (ae (mq ?_)));obtain⟨Xx,mc,h⟩:=aa h;refine jb (dR rfl mc) ?_;refine aq (nl ?_);exact jz ((),(List.set (List.set y6.1 (Int.toNat y6.2) E) (Int.toNat y) D,Xx)) h [0]
    .refine f9 (bO (bO (c9 (bn ?_))));exact jz ((),y6.1) h [0]
  .refine ae (mq ?_);obtain⟨Xw,Y,h⟩:=aa h;refine jb (bh rfl Y) ?_;refine aq (nl ?_);exact jz ((),(x4,Xw)) h [0]
 .
  refine f9 (bO (bO (c9 (lF ?_))));cases h;exact aV () [] 1 trivial rfl
def lL(k:Nat)(a0:Int):Option Int:=
 ((if 4294967296≤a0 then(some (jt .u64 a0 32,32)) else(some (a0,0))):Option (Int×Int)).bind λx1=>
 ((if 65536≤x1.1 then((ck (x1.2+16)).bind λx5=>
 some (jt .u64 x1.1 16,x5)) else(some (x1.1,x1.2))):Option (Int×Int)).bind λx3=>
 ((if 256≤x3.1 then((ck (x3.2+8)).bind λx8=>
 some (jt .u64 x3.1 8,x8)) else(some (x3.1,x3.2))):Option (Int×Int)).bind λx6=>
 (EI NX (IntKind.u8.wrap x6.1)).bind λx9=>
 (ck (x9.toNat:Int)).bind λe=>
 (ck (x6.2+e)).bind λc=>
 some c
theorem sb(k:Nat)(a0:Int)(r:Int)(h:lL k a0=some r):
 cX Tryz.prog 152 [.eq (.int .u64 a0)] [] (λ_:Unit=>(bz [I r],[])):=by
 unfold lL at h
 replace h:=aW h
 refine cX.of 25 Tryz.func152 rfl Tryz.ntmps152 rfl λS w0=>?_
 refine sr ?_
 refine cq ?_
 refine nt ?_
 refine aC (Z:=Unit) (α:=Int×Int) (λz2 x1=>[(0,.eq (.int .u64 x1.1)),(2,I x1.2)]) (λz2 x1=>[]) h (λK h=>?_) (λz2 x1 h=>?_)
 .
  refine sr (mq ?_);refine jb (gV rfl) ?_;refine nt (ci h (λh=>?_) (λh=>?_))
  .refine sr (mq ?_);refine cF rfl (wx rfl (by decide)) ⟨rfl,rfl,trivial⟩ ?_;refine aq (nt (ae ?_));refine cq (nl ?_);exact jz ((),(jt .u64 a0 32,32)) h []
  .refine ba (ax ?_);exact jz ((),(a0,0)) h []
 .
  refine aC (Z:=Unit) (α:=Int×Int) (λz4 x3=>[(0,.eq (.int .u64 x3.1)),(2,I x3.2)]) (λz4 x3=>[]) h (λK h=>?_) (λz4 x3 h=>?_)
  .refine sr (mq ?_);refine jb (gV rfl) ?_;refine nt (ci h (λh=>?_) (λh=>?_))
   .refine sr (mq ?_);refine cF rfl (wx rfl (by decide)) ⟨rfl,rfl,trivial⟩ ?_;refine aq (nt (ae ?_));refine mq ?_;obtain⟨x5,n,h⟩:=aa h;refine jb (bh rfl n) ?_;refine aq (nl ?_);exact jz ((),(jt .u64 x1.1 16,x5)) h []
   .refine ba (ax ?_);exact jz ((),(x1.1,x1.2)) h []
  .refine aC (Z:=Unit) (α:=Int×Int) (λz7 x6=>[(0,.eq (.int .u64 x6.1)),(2,I x6.2)]) (λz7 x6=>[]) h (λK h=>?_) (λz7 x6 h=>?_)
   .refine sr (mq ?_);refine jb (gV rfl) ?_;refine nt (ci h (λh=>?_) (λh=>?_))
    .refine sr (mq ?_);refine cF rfl (wx rfl (by decide)) ⟨rfl,rfl,trivial⟩ ?_;refine aq (nt (ae ?_));refine mq ?_;obtain⟨x8,l,h⟩:=aa h;refine jb (bh rfl l) ?_;refine aq (nl ?_);exact jz ((),(jt .u64 x3.1 8,x8)) h []
    .refine ba (ax ?_);exact jz ((),(x3.1,x3.2)) h []
   .refine sr ?_;iterate 2 refine mq ?_
    refine ja (t8 rfl Vi U5) ?_;obtain⟨x9,j,h⟩:=aa h;refine ja (BK rfl U9 j) ?_;obtain⟨u,e,h⟩:=aa h;refine ja (BL rfl U5 U3 e) ?_;obtain⟨s,c,h⟩:=aa h;refine jb (bh rfl c) ?_;refine aq (nt (aD ?_));cases h;exact ra
def qW(k:Nat)(a0:Int):Option Int:=
 (lL k a0).bind λr1=>
 some r1
theorem EV(k:Nat)(a0:Int)(r:Int)(h:qW k a0=some r):
 cX Tryz.prog 134 [.eq (.int .u64 a0)] [] (λ_:Unit=>(bz [I r],[])):=by
 unfold qW at h
 replace h:=aW h
 refine cX.of 8 Tryz.func134 rfl Tryz.ntmps134 rfl λS w0=>?_
 refine sr ?_
 refine cq ?_
 refine nt ?_
 refine ai ?_
 refine LF (λhb=>(by cases hb)) (λhb=>?_)
 refine sk ?_
 refine sr ?_
 refine mq ?_
 obtain⟨r1,c,h⟩:=aa h
 have e:=sb k a0 r1 c
 refine ja (au [.tmp 6] rfl rfl Uy rfl e) ?_
 refine aq ?_
 refine nt ?_
 refine aD ?_
 cases h
 exact ra
def cR(k:Nat)(a0:(List Int))(a1:Int)(a2:Int)(a3:Int):Nat->Unit->Option (List Int)
 |0,_=>none
 |n+1,y1=>
  (ck (a2 - a1)).bind λx3=>
  if x3≤12 then((cp k a0 a1 a2).bind λr4=>
  some r4) else(if a3=0 then(none) else(none))
def dh(k:Nat)(a0:(List Int))(a1:Int)(a2:Int)(a3:Int):Option (List Int):=
 cR k a0 a1 a2 a3 k ()
theorem ni(k:Nat)(a0:(List Int))(c:Value)(a1:Int)(a2:Int)(a3:Int)(r:(List Int))(h:dh k a0 a1 a2 a3=some r):
 cX Tryz.prog 133 [.eq c,I a1,I a2,I a3] [.sl c 3 Ti a0] (λ_:Unit=>(bz [],[.sl c 3 Ti r])):=by
 unfold dh at h
 replace h:=aW h
 refine cX.of 134 Tryz.func133 rfl Tryz.ntmps133 rfl λS w0=>?_
 refine sr ?_
 refine cq ?_
 refine nt ?_
 refine sr ?_
 refine cq ?_
 refine nt ?_
 refine ah ?_
 refine aE (λz2 y1=>[(0,.eq c),(1,I a1),(2,I a2),(3,I a3),(8,.eq (.bool true)),(9,.eq (.bool true))]) (λz2 y1=>[.sl c 3 Ti a0]) (cR k a0 a1 a2 a3) k () () (λ_=>rfl) h (SE.fin [0] ⟨rfl,rfl,rfl,rfl,rfl,rfl,trivial⟩ rfl) (λn z2 y1 h=>?_)
 unfold cR at h
 refine ah ?_
 refine sr ?_
 iterate 2 refine mq ?_
 obtain⟨x3,e,h⟩:=aa h
 refine jb (dR rfl e) ?_
 refine aq ?_
 refine nt ?_
 refine ai ?_
 refine sr ?_
 refine mq ?_
 refine jb (yK rfl) ?_
 refine nt ?_
 refine ci h (λh=>?_) (λh=>?_)
 .
  refine sr ?_;iterate 3 refine mq ?_
  obtain⟨r4,j,h⟩:=aa h;refine kc (au [.tmp 24,.tmp 25,.tmp 26] rfl rfl UB rfl (kC k a0 c a1 a2 r4 j)) ?_;refine nt (rx (aX (bg (aX ?_))));cases h;exact aV () [] 1 trivial rfl
 .
  refine sk (ai (sr (mq ?_)));refine jb (jO rfl) ?_;refine nt (ci h (λh=>?_) (λh=>?_))
  .cases h
  .cases h
def g9(k:Nat)(a0:(List Int)):Option (List Int):=
 (qW k (IntKind.u64.wrap (a0.length:Int))).bind λr1=>
 (dh k a0 0 (a0.length:Int) r1).bind λr2=>
 some r2
theorem vb(k:Nat)(a0:(List Int))(c:Value)(r:(List Int))(h:g9 k a0=some r):
 cX Tryz.prog 123 [.eq c] [.sl c 3 Ti a0] (λ_:Unit=>(bz [],[.sl c 3 Ti r])):=by
 unfold g9 at h
 replace h:=aW h
 refine cX.of 11 Tryz.func123 rfl Tryz.ntmps123 rfl λS w0=>?_
 refine sr ?_
 refine mq ?_
 refine ka (oh rfl rfl fD) ?_
 refine aq ?_
 refine nt ?_
 refine ae ?_
 iterate 3 refine mq ?_
 refine ja (t8 rfl U3 WU) ?_
 obtain⟨r1,j,h⟩:=aa h
 have n:=EV k (IntKind.u64.wrap (a0.length:Int)) r1 j
 refine ja (au [.tmp 8] rfl rfl UC rfl n) ?_
 obtain⟨r2,e,h⟩:=aa h
 have l:=ni k a0 c 0 (a0.length:Int) r1 r2 e
 refine nT rfl rfl rfl (au [.tmp 5,.const (.int .i64 (0)),.tmp 6,.tmp 9] rfl rfl UD rfl l) ⟨rfl,rfl,rfl,rfl,trivial⟩ ?_
 refine aG ?_
 refine lF ?_
 cases h
 exact aV () [] 1 trivial rfl
def cV(k:Nat)(a1:Int)(x3:(List (List Int))):Nat->Int->Option (Except (Int ⊕ (List Int)) Unit)
 |0,_=>none
 |n+1,y4=>
  if y4 < (x3.length:Int) then((aH x3 y4).bind λx6=>
  (ir k x6 a1).bind λr7=>
  if 0≤r7 then(((if 0 < r7 then((ck (r7 - 1)).bind λs=>
  (aH x6 s).bind λe=>
  (bV (bb (length ([]:(List Int))+length [e]))).bind λ_=>
  some (([]:(List Int))++[e])) else(some ([]:(List Int)))):Option ((List Int))).bind λx8=>
  (((ck (r7+1)).bind λl=>
  if l < (x6.length:Int) then((ck (r7+1)).bind λj=>
  (aH x6 j).bind λc=>
  (bV (bb (length x8+length [c]))).bind λ_=>
  some (x8++[c])) else(some x8)):Option ((List Int))).bind λr=>
  (g9 k r).bind λu=>
  some (.error (Sum.inr u:(Int ⊕ (List Int))))) else((ck (y4+1)).bind λh=>
  cV k a1 x3 n h)) else(some (.ok ()))
def eV(k:Nat):Nat->ab->Int->Int->Option ((Int ⊕ (List Int)))
 |0,_,_,_=>none
 |m0+1,a0,a1,a2=>
  bE (α:=Unit) ((aH a0.2.2.2.2.1 a2).bind λx3=>
  cV k a1 x3 k 0) (some) λ_=>
  ((if 0 < a2 then((ck (a2 - 1)).bind λh=>
  ((eV k m0) a0 a1 h).bind λc=>
  if M4 c=true then((ck (1+(Tm c))).bind λe=>
  some e) else(some 1)) else(some 1)):Option (Int)).bind λj=>
  some (Sum.inl j:(Int ⊕ (List Int)))
theorem mP{M:Md Tryz.prog}{bm:Nat}{c0 c1 c2 c3 c4 c5:Value}(hK:Kn M bm 0 [c0,c1,c2,c3,c4,c5])(k:Nat):
 ∀(n:Nat) (a0:ab) (a1:Int) (a2:Int) (r:(Int ⊕ (List Int))),eV k n a0 a1 a2=some r->cC M 98 [.rep (.mo (Pv bm) [c0,c1,c2,c3,c4,c5] am) a0,I a1,I a2] ([]) (λ_:Unit=>(bz [.rep (.pl 157 159 Tl) r],[])):=by
 intro n
 induction n with
 |zero=>intro a0 a1 a2 r h;cases h
 |succ m0 ih=>
  intro a0 a1 a2 r h;rw [eV] at h;replace h:=aW h;refine cC.of 80 Tryz.func98 rfl Tryz.ntmps98 rfl λS w0=>?_;refine sr (cq (nt ?_));refine cO (Z:=Unit) (α:=Unit) (λz2 x1=>[(0,.rep (.mo (Pv bm) [c0,c1,c2,c3,c4,c5] am) a0),(1,I a1),(2,I a2)]) (λz2 x1=>[]) (λe=>e=r) h (λe h=>Option.some.inj h) (λK hR h=>?_) (λz2 x1 h=>?_)
  .refine sr (mq ?_);refine ja (mL rfl) ?_;refine ja (iN rfl i9) ?_;refine ja (jJ 1 false rfl bW rfl rfl) ?_;refine ja (kF (t:=(.slice (.slice Tl))) rfl fq (hK.sub 4 1 rfl (le_of_ble_eq_true rfl)) rfl rfl) ?_;refine mq ?_;obtain⟨x3,XB,h⟩:=aa h;refine jb (ay (t:=(.slice Tl)) rfl pq kB XB) ?_;refine ja (ak (t:=(.slice Tl)) rfl kB rfl) ?_;refine ol nk ?_;refine fF rfl ?_;refine nt (ah (aE (λz5 y4=>[(0,.rep (.mo (Pv bm) [c0,c1,c2,c3,c4,c5] am) a0),(1,I a1),(2,I a2),(21,.rep (.slice Tl) x3),(22,I (x3.length:Int)),(23,I y4)]) (λz5 y4=>[]) (cV k a1 x3) k () 0 (λ_=>rfl) h (SE.fin [] ⟨rfl,rfl,rfl,rfl,rfl,rfl,trivial⟩ rfl) (λn z5 y4 h=>?_)));unfold cV at h;refine sr (jb (bj rfl) ?_);refine nt (ai (ci h (λh=>?_) (λh=>?_)))
   .refine sk (ai (ah (sr ?_)));obtain⟨x6,XA,h⟩:=aa h;refine jb (ay (t:=Tl) rfl nk ew XA) ?_;refine ja (ak (t:=Tl) rfl ew rfl) ?_;refine aq (nt (sr ?_));iterate 2 refine mq ?_
    obtain⟨r7,XC,h⟩:=aa h;refine jb (au [.tmp 27,.tmp 28] rfl rfl Uo rfl (oa k x6 a1 r7 XC)) ?_;refine aq (nt (sr ?_));refine mq ?_;refine jb (gV rfl) ?_;refine nt (ci h (λh=>?_) (λh=>?_))
    .refine sr (cq (nt ?_));refine aC (Z:=Value) (α:=(List Int)) (λz9 x8=>[(8,.rep Tl x6),(9,I r7),(10,.eq z9)]) (λz9 x8=>[.sl z9 3 Ti x8]) h (λK h=>?_) (λz9 x8 h=>?_)
     .refine sr (mq ?_);refine jb (iM rfl) ?_;refine nt (ci h (λh=>?_) (λh=>?_))
      .refine ae ?_;iterate 3 refine mq ?_
       obtain⟨XF,U,h⟩:=aa h;refine jb (dR rfl U) ?_;obtain⟨x,Q,h⟩:=aa h;refine jb (ay (t:=Ti) rfl fD bJ Q) ?_;refine ja (ak (t:=Ti) rfl bJ rfl) ?_;refine ja (aR (t:=Ti) [(.tmp 39,_)] [x] rfl rfl cH (.cons rfl .int .nil) rfl rfl) ?_;refine eQ (SE.nil 3 Ti) ?_;obtain⟨XH,Y,h⟩:=aa h;refine cz rfl rfl rfl (bi rfl rfl cH (ap Y)) ⟨rfl,rfl,trivial⟩ λXx=>?_;refine aq (nl ?_);exact jz (Xx,([]:(List Int))++[x]) h [0]
      .refine ba (ax (bv (SE.nil 3 Ti) ?_));exact jz ((.slice none 0 0),([]:(List Int))) h [0]
     .refine aC (Z:=Value) (α:=(List Int)) (λc j=>[(10,.eq c)]) (λc j=>[.sl c 3 Ti j]) h (λK h=>?_) (λc j h=>?_)
      .refine sr (mq ?_);obtain⟨XE,O,h⟩:=aa h;refine jb (bh rfl O) ?_;refine mq ?_;refine ol fD ?_;refine jb (bj rfl) ?_;refine nt (ci h (λh=>?_) (λh=>?_))
       .refine ae ?_;iterate 3 refine mq ?_
        obtain⟨XD,J,h⟩:=aa h;refine jb (bh rfl J) ?_;obtain⟨u,F,h⟩:=aa h;refine jb (ay (t:=Ti) rfl fD bJ F) ?_;refine ja (ak (t:=Ti) rfl bJ rfl) ?_;refine ja (aR (t:=Ti) [(.tmp 52,_)] [u] rfl rfl cH (.cons rfl .int .nil) rfl rfl) ?_;obtain⟨XG,X,h⟩:=aa h;refine cz rfl rfl rfl (bi rfl rfl cH (ap X)) ⟨rfl,rfl,trivial⟩ λXw=>?_;refine aq (nl ?_);exact jz (Xw,x8++[u]) h [0]
       .refine ba (ax ?_);exact jz (z9,x8) h [0]
      .refine sr (mq ?_);obtain⟨Xz,mw,h⟩:=aa h;refine ka (au [.tmp 55] rfl rfl UE rfl (vb k j c Xz mw)) ?_;refine nt (sr (mq ?_));refine eQ (fy [10,55,57] ⟨rfl,rfl,rfl,trivial⟩) ?_;refine ja (eX [(0,.tmp 57,_)] rfl Tt Pm RE (kZ ⟨rfl,trivial⟩) rfl) ?_;refine ja (Nb (t0:=157) (t:=Ti) rfl WS) ?_;refine aq (nt (aD (br (aX (bg ?_)))));obtain rfl:=hR _ h;exact ra
    .refine ba (aI (tn (ae ?_)));obtain⟨Xv,E,h⟩:=aa h;refine jb (bh rfl E) ?_;refine mq (nl ?_);exact jz ((),Xv) h []
   .refine xa ?_;exact jz ((),()) h []
  .refine sr (cq (nt ?_));refine aC (Z:=Unit) (α:=Int) (λs l=>[(11,I l)]) (λs l=>[]) h (λK h=>?_) (λs l h=>?_)
   .refine sr (mq ?_);refine jb (iM rfl) ?_;refine nt (ci h (λh=>?_) (λh=>?_))
    .refine sr ?_;iterate 3 refine mq ?_
     obtain⟨zz,D,h⟩:=aa h;refine jb (dR rfl D) ?_;obtain⟨Xy,mc,h⟩:=aa h;refine jc (bp [.tmp 64,.tmp 65,.tmp 67] rfl rfl Rf rfl (ih a0 a1 zz Xy mc)) ?_;refine cF rfl (FA rfl IQ (by decide)) ⟨rfl,trivial⟩ ?_;refine mq ?_;refine xr ?_;refine xr ?_;refine bf rfl rfl rfl (bA rfl Im P1) trivial λXI=>?_;refine aS rfl rfl (aN rfl PG trivial rfl rfl) ⟨rfl,rfl,trivial⟩ ?_;refine aq (nt (sr ?_));refine mq (nt ?_);refine cv h (λh=>?_) (λh=>?_)
     .refine ae (mq ?_);refine fl F5 ?_;refine lo bJ ?_;obtain⟨qt,y,h⟩:=aa h;refine jb (bh rfl y) ?_;refine aq (nl ?_);exact jz ((),qt) h []
     .refine ba (ax ?_);exact jz ((),1) h []
    .refine ba (ax ?_);exact jz ((),1) h []
   .refine sr (mq ?_);refine ja (eX [(0,.tmp 77,_)] rfl Tu Im RF (kZ ⟨rfl,trivial⟩) rfl) ?_;refine ja (Nc (t1:=159) (t:=Ti) rfl WT) ?_;refine aq (nt (aD ?_));cases h;exact ra
def jE(k:Nat)(a0:PU):Option (List Int):=
 some ([]:(List Int))
theorem rU(k:Nat)(a0:PU)(r:(List Int))(h:jE k a0=some r):
 cX Tryz.prog 176 [.rep S7 a0] [] (λ_:Unit=>(bz [.rep Tl r],[])):=by
 unfold jE at h
 replace h:=aW h
 refine cX.of 3 Tryz.func176 rfl Tryz.ntmps176 rfl λS w0=>?_
 refine sr ?_
 refine bx λb1=>?_
 refine cq ?_
 refine nt ?_
 refine sr ?_
 refine cq ?_
 refine nt ?_
 refine aD ?_
 refine bv (dA (t:=Tl) (x:=([]:(List Int))) 2 rfl .nil rfl rfl) ?_
 cases h
 exact ra
def jD(k:Nat)(a0:PT):Option (List Int):=
 some a0
theorem rQ(k:Nat)(a0:PT)(r:(List Int))(h:jD k a0=some r):
 cX Tryz.prog 177 [.rep S5 a0] [] (λ_:Unit=>(bz [.rep Tl r],[])):=by
 unfold jD at h
 replace h:=aW h
 refine cX.of 5 Tryz.func177 rfl Tryz.ntmps177 rfl λS w0=>?_
 refine sr ?_
 refine bx λb1=>?_
 refine cq ?_
 refine nt ?_
 refine sr ?_
 refine fl Oa ?_
 refine lo ew ?_
 refine aq ?_
 refine nt ?_
 refine aD ?_
 cases h
 exact ra
def cy(k:Nat)(a0:ab)(a1:(List Int))(r5:(List Int)):Nat->Int->Option (Except Int Unit)
 |0,_=>none
 |n+1,y6=>
  if y6 < (r5.length:Int) then((aH r5 y6).bind λx8=>
  (bV (0≤x8/\x8 < 5)).bind λ_=>
  (aH a1 x8).bind λe=>
  if(uw 0 a0.2.1)≤e then(some (.error x8)) else((ck (y6+1)).bind λc=>
  cy k a0 a1 r5 n c)) else(some (.ok ()))
def dr(k:Nat)(a0:ab)(a1:(List Int))(a2:Int)(a3:Int):Option Int:=
 bE (α:=Unit) ((eV k k a0 a2 a3).bind λr4=>
 (KY r4 (λn=>jE k n) (λl=>jD k l)).bind λr5=>
 cy k a0 a1 r5 k 0) (some) λ_=>
 some (-1:Int)
theorem lj{M:Md Tryz.prog}{bm:Nat}{c0 c1 c2 c3 c4 c5:Value}(hK:Kn M bm 0 [c0,c1,c2,c3,c4,c5])(k:Nat)(a0:ab)(a1:(List Int))(a2:Int)(a3:Int)(r:Int)(h:dr k a0 a1 a2 a3=some r):
    cC M 73 [.rep (.mo (Pv bm) [c0,c1,c2,c3,c4,c5] am) a0,.rep Tr a1,.eq (.int .i64 a2),.eq (.int .i64 a3)] [] (λ_:Unit=>(bz [.eq (.int .i64 r)],[])):=by
  unfold dr at h
  replace h:=aW h
  refine cC.of 33 Tryz.func73 rfl Tryz.ntmps73 rfl λS w0=>?_
  refine ai ?_
  refine ae ?_
  refine bf rfl rfl rfl (yL rfl rfl) ⟨rfl,trivial⟩ λb1=>?_
  refine GI rfl ?_
  refine aG ?_
  refine ax ?_
  show JC _ _ _ _ _
  refine cO (Z:=Unit) (α:=Unit) (λz3 x2=>[]) (λz3 x2=>[]) (λe=>e=r) h (λe h=>Option.some.inj h) (λK hR h=>?_) (λz3 x2 h=>?_)
  .
    refine ai ?_
    refine ae ?_
    refine jf rfl rfl ?_
    refine jf rfl rfl ?_
    refine jf rfl rfl ?_
    obtain⟨r4,D,h⟩:=aa h
    have E:=mP hK k k a0 a2 a3 r4 D
    refine cF rfl (bp [.tmp 11,.tmp 12,.tmp 13] rfl rfl Rf rfl E) ⟨rfl,rfl,rfl,trivial⟩ ?_
    obtain⟨r5,c,h⟩:=aa h
    refine cF rfl (Nh (r:=.rep Tl r5) rfl rfl yc yb (λn hd=>.agI (rU k n r5 (by rw [hd] at c;exact c))) (λl hd=>.agS (rQ k l r5 (by rw [hd] at c;exact c)))) ⟨rfl,trivial⟩ ?_
    refine cF rfl (o8 rfl rfl fD) ⟨rfl,trivial⟩ ?_
    refine fF rfl ?_
    refine aG ?_
    refine ax ?_
    show JC _ _ _ _ _
    refine ah ?_
    refine aE (λz7 y6=>[(0,.rep (.mo (Pv bm) [c0,c1,c2,c3,c4,c5] am) a0),(5,.eq (Pv b1)),(15,.rep Tl r5),(16,.eq (.int .i64 (r5.length:Int))),(17,.eq (.int .i64 y6))]) (λz7 y6=>[.obj b1 104 (.rep Tr a1)]) (cy k a0 a1 r5) k () 0 (λ_=>rfl) h (SE.fin [0] ⟨rfl,rfl,rfl,rfl,rfl,trivial⟩ rfl) (λn z7 y6 h=>?_)
    unfold cy at h
    refine ai ?_
    refine ae ?_
    refine cF rfl (bj rfl) ⟨rfl,rfl,trivial⟩ ?_
    refine aG ?_
    refine ax ?_
    show JC _ _ _ _ _
    refine ai ?_
    refine kz rfl (λhb=>?_) (λhb=>?_)
    . replace h:=dO (uE hb) h
      refine ba ?_
      refine ax ?_
      show JC _ _ _ _ _
      refine ai ?_
      refine ah ?_
      refine ai ?_
      refine ae ?_
      obtain⟨x8,y,h⟩:=aa h
      refine cF rfl (ay (t:=Ti) rfl fD bJ y) ⟨rfl,rfl,trivial⟩ ?_
      refine cF rfl (ak (t:=Ti) rfl bJ rfl) ⟨rfl,trivial⟩ ?_
      refine xw rfl rfl ?_
      refine aG ?_
      refine ax ?_
      show JC _ _ _ _ _
      refine ai ?_
      refine bu ?_
      refine gI rfl rfl rfl (aK rfl) ⟨rfl,trivial⟩ ?_
      obtain⟨u9,u,h⟩:=aa h
      refine gI rfl rfl rfl (eN rfl sG bJ (ap u).1 (ap u).2) ⟨rfl,rfl,trivial⟩ ?_
      obtain⟨F,s,h⟩:=aa h
      refine AO 0 rfl rfl rfl rfl (oJ (t:=Ti) (off:=0) (i:=x8) (N:=5) rfl bJ (λ_=>rfl) rfl rfl rfl rfl s) ⟨rfl,trivial⟩ ?_
      refine gI rfl rfl rfl (aK rfl) ⟨rfl,trivial⟩ ?_
      refine gI rfl rfl rfl (mL rfl) ⟨rfl,trivial⟩ ?_
      refine gI rfl rfl rfl (iN rfl i9) ⟨rfl,trivial⟩ ?_
      refine gI rfl rfl rfl (jJ 1 false rfl oV rfl rfl) ⟨rfl,trivial⟩ ?_
      refine gI rfl rfl rfl (kF (t:=Ti) rfl bJ (hK.sub 1 1 rfl (le_of_ble_eq_true rfl)) rfl rfl) ⟨rfl,trivial⟩ ?_
      refine gI rfl rfl rfl (Jw rfl rfl) ⟨rfl,rfl,trivial⟩ ?_
      refine E6 (by kernel_rfl) bY ?_
      refine cF rfl (gV rfl) ⟨rfl,rfl,trivial⟩ ?_
      refine aG ?_
      refine ax ?_
      show JC _ _ _ _ _
      refine kz rfl (λhb=>?_) (λhb=>?_)
      . replace h:=dO (uE hb) h
        refine ai ?_
        refine ae ?_
        refine jf rfl rfl ?_
        refine xw rfl rfl ?_
        refine aG ?_
        refine ax ?_
        show JC _ _ _ _ _
        refine aD ?_
        refine aX ?_
        refine bg ?_
        refine bg ?_
        refine aX ?_
        refine bg ?_
        obtain rfl:=hR _ h
        exact aV () [_] 0 ⟨rfl,trivial⟩ rfl
      . replace h:=bZ (uF hb) h
        refine ba ?_
        refine aI ?_
        refine ax ?_
        show JC _ _ _ _ _
        refine ae ?_
        obtain⟨x,j,h⟩:=aa h
        refine cF rfl (bh rfl j) ⟨rfl,rfl,trivial⟩ ?_
        refine jf rfl rfl ?_
        refine aG ?_
        refine ax ?_
        exact xy ((),x) h (SE.fin [0] ⟨rfl,rfl,rfl,rfl,rfl,trivial⟩ rfl)
    . replace h:=bZ (uF hb) h
      refine f9 ?_
      refine bO ?_
      refine bO ?_
      refine c9 ?_
      refine ax ?_
      exact xy ((),()) h (SE.fin [] trivial rfl)
  .
    refine ai ?_
    refine ae ?_
    refine GI rfl ?_
    refine aG ?_
    refine ax ?_
    show JC _ _ _ _ _
    refine aD ?_
    obtain rfl:=Option.some.inj h
    exact aV () [_] 0 ⟨rfl,trivial⟩ rfl
def cN(k:Nat)(a0:ab)(a1:(List Int))(a2:Int):Nat->((List Int)×Int)->Option (List Int)
 |0,_=>none
 |n+1,y6=>
  if y6.2 < a0.1 then((((eV k k a0 y6.2 a2).bind λc=>
  if M4 c=true then(if a0.2.2.2.1≤(Tm c) then((bV (0≤y6.2/\y6.2 < 5)).bind λ_=>
  some (List.set y6.1 (Int.toNat y6.2) (-1:Int))) else(some y6.1)) else(if¬(M4 c=true) then((bV (0≤y6.2/\y6.2 < 5)).bind λ_=>
  (aH a1 y6.2).bind λl=>
  if 0≤l then((bV (0≤y6.2/\y6.2 < 5)).bind λ_=>
  (aH a1 y6.2).bind λj=>
  (ck (j+1)).bind λh=>
  (bV (0≤y6.2/\y6.2 < 5)).bind λ_=>
  some (List.set y6.1 (Int.toNat y6.2) h)) else((dr k a0 a1 y6.2 a2).bind λr=>
  if 0≤r then((bV (0≤y6.2/\y6.2 < 5)).bind λ_=>
  some (List.set y6.1 (Int.toNat y6.2) 0)) else(some y6.1))) else(some y6.1))):Option ((List Int))).bind λx8=>
  (ck (y6.2+1)).bind λe=>
  cN k a0 a1 a2 n (x8,e)) else(some y6.1)
def iP(k:Nat)(a0:ab)(a1:(List Int))(a2:Int):Option (List Int):=
 ((cN k a0 a1 a2 k (a1,0)):Option ((List Int))).bind λx4=>
 some x4
theorem te{M:Md Tryz.prog}{bm:Nat}{c0 c1 c2 c3 c4 c5:Value}(hK:Kn M bm 0 [c0,c1,c2,c3,c4,c5])(k:Nat)(a0:ab)(a1:(List Int))(a2:Int)(r:(List Int))(h:iP k a0 a1 a2=some r):
 cC M 84 [.rep (.mo (Pv bm) [c0,c1,c2,c3,c4,c5] am) a0,.rep Tr a1,I a2] [] (λ_:Unit=>(bz [.rep Tr r],[])):=by
 unfold iP at h
 replace h:=aW h
 refine cC.of 60 Tryz.func84 rfl Tryz.ntmps84 rfl λS w0=>?_
 refine sr ?_
 refine bx λb1=>?_
 refine bf rfl rfl rfl (bA rfl E8 Gs) trivial λb2=>?_
 refine nt ?_
 refine sr ?_
 refine fr 1 ?_
 refine lo gh ?_
 refine bf rfl rfl rfl (bA rfl E8 Gs) trivial λb3=>?_
 refine aS rfl rfl (aN rfl gh rfl rfl rfl) ⟨rfl,rfl,trivial⟩ ?_
 refine nt ?_
 refine aC (Z:=Unit) (α:=(List Int)) (λz5 x4=>[(6,Pt b2),(7,Pt b3)]) (λz5 x4=>[.obj b2 104 (.rep Tr [0,0,0,0,0]),.obj b3 104 (.rep Tr x4)]) h (λK h=>?_) (λz5 x4 h=>?_)
 .
  refine sr (mq ?_);refine ja (mL rfl) ?_;refine ja (iN rfl i9) ?_;refine ja (jJ 1 false rfl fx rfl rfl) ?_;refine ja (kF (t:=Ti) rfl bJ (hK.sub 0 1 rfl (le_of_ble_eq_true rfl)) rfl rfl) ?_;refine fF rfl ?_;refine nt (ah (aE (λz7 y6=>[(0,.rep (.mo (Pv bm) [c0,c1,c2,c3,c4,c5] am) a0),(2,I a2),(4,Pt b1),(6,Pt b2),(7,Pt b3),(16,I a0.1),(17,I y6.2)]) (λz7 y6=>[.obj b1 104 (.rep Tr a1),.obj b2 104 (.rep Tr [0,0,0,0,0]),.obj b3 104 (.rep Tr y6.1)]) (cN k a0 a1 a2) k () (a1,0) (λ_=>rfl) h (SE.fin [1,2,0] ⟨rfl,rfl,rfl,rfl,rfl,rfl,rfl,trivial⟩ rfl) (λn z7 y6 h=>?_)));unfold cN at h;refine sr (jb (bj rfl) ?_);refine nt (ai (ci h (λh=>?_) (λh=>?_)))
  .refine sk (aC (Z:=Unit) (α:=(List Int)) (λz9 x8=>[(0,.rep (.mo (Pv bm) [c0,c1,c2,c3,c4,c5] am) a0),(2,I a2),(4,Pt b1),(6,Pt b2),(7,Pt b3),(16,I a0.1),(17,I y6.2)]) (λz9 x8=>[.obj b1 104 (.rep Tr a1),.obj b2 104 (.rep Tr [0,0,0,0,0]),.obj b3 104 (.rep Tr x8)]) h (λK h=>?_) (λz9 x8 h=>?_))
   .refine ah (sr (mq ?_));refine aq (nt (sr ?_));iterate 3 refine mq ?_
    obtain⟨U,F,h⟩:=aa h;refine jc (bp [.tmp 20,.tmp 21,.tmp 22] rfl rfl Rf rfl (mP hK k k a0 y6.2 a2 U F)) ?_;refine nt (ah (sr (cF rfl (FA rfl IQ (by decide)) ⟨rfl,trivial⟩ ?_)));refine xr ?_;refine xr ?_;refine nt (cv h (λh=>?_) (λh=>?_))
    .refine sr (bf rfl rfl rfl (bA rfl Im P1) trivial λXw=>?_);refine aS rfl rfl (aN rfl PG trivial rfl rfl) ⟨rfl,rfl,trivial⟩ ?_;refine nt (ai (bu ?_));refine da (av rfl F5) ?_;refine ea 0 (ao rfl bJ jQ rfl) ?_;refine dm ?_;refine da (mL rfl) ?_;refine da (iN rfl i9) ?_;refine da (jJ 1 false rfl uA rfl rfl) ?_;refine da (kF (t:=Ti) rfl bJ (hK.sub 3 1 rfl (le_of_ble_eq_true rfl)) rfl rfl) ?_;refine df bY ?_;refine jb (gV rfl) ?_;refine nt (ci h (λh=>?_) (λh=>?_))
     .refine ae (mq ?_);obtain⟨zz,j,h⟩:=aa h;refine jb (eN rfl sG bJ (ap j).1 (ap j).2) ?_;refine fr 3 ?_;refine aS rfl rfl (iL (t:=Ti) (off:=0) (i:=y6.2) (N:=5) rfl bJ .int rfl rfl rfl rfl (ap j).1 (ap j).2 rfl) ⟨rfl,rfl,trivial⟩ ?_;refine aG (aI (bn ?_));exact jz ((),List.set y6.1 (Int.toNat y6.2) (-1:Int)) h [2,3,0]
     .refine ba (aI (bn ?_));exact jz ((),y6.1) h [1,2,3]
    .refine sr (cF rfl (Nl rfl Qk (by decide)) ⟨rfl,trivial⟩ ?_);refine xr ?_;refine xr ?_;refine nt (cw h (λh=>?_) (λh=>?_))
     .refine sr (bf rfl rfl rfl (bA rfl Pm UP) trivial λXv=>?_);refine aS rfl rfl (aN rfl Ta trivial rfl rfl) ⟨rfl,rfl,trivial⟩ ?_;refine nt (sr (mq ?_));obtain⟨qt,s,h⟩:=aa h;refine jb (eN rfl sG bJ (ap s).1 (ap s).2) ?_;obtain⟨Y,D,h⟩:=aa h;refine fr 1 ?_;refine ka (oJ (t:=Ti) (off:=0) (i:=y6.2) (N:=5) rfl bJ (λ_=>rfl) rfl rfl rfl rfl D) ?_;refine jb (gV rfl) ?_;refine nt (ci h (λh=>?_) (λh=>?_))
      .refine ae ?_;iterate 2 refine mq ?_
       obtain⟨u16,l,h⟩:=aa h;refine jb (eN rfl sG bJ (ap l).1 (ap l).2) ?_;obtain⟨X,y,h⟩:=aa h;refine ka (oJ (t:=Ti) (off:=0) (i:=y6.2) (N:=5) rfl bJ (λ_=>rfl) rfl rfl rfl rfl y) ?_;obtain⟨O,x,h⟩:=aa h;refine jb (bh rfl x) ?_;obtain⟨mw,e,h⟩:=aa h;refine jb (eN rfl sG bJ (ap e).1 (ap e).2) ?_;refine fr 3 ?_;refine aS rfl rfl (iL (t:=Ti) (off:=0) (i:=y6.2) (N:=5) rfl bJ .int rfl rfl rfl rfl (ap e).1 (ap e).2 rfl) ⟨rfl,rfl,trivial⟩ ?_;refine aG (aI (bn ?_));exact jz ((),List.set y6.1 (Int.toNat y6.2) O) h [1,3,0]
      .refine sr (mq ?_);refine lo gh ?_;iterate 2 refine mq ?_
       obtain⟨Q,E,h⟩:=aa h;refine cF rfl (bp [.tmp 50,.tmp 51,.tmp 52,.tmp 53] rfl rfl Un rfl (lj hK k a0 a1 y6.2 a2 Q E)) ⟨rfl,rfl,rfl,rfl,trivial⟩ ?_;refine jb (gV rfl) ?_;refine nt (ci h (λh=>?_) (λh=>?_))
       .refine ae (mq ?_);obtain⟨mc,c,h⟩:=aa h;refine jb (eN rfl sG bJ (ap c).1 (ap c).2) ?_;refine fr 3 ?_;refine aS rfl rfl (iL (t:=Ti) (off:=0) (i:=y6.2) (N:=5) rfl bJ .int rfl rfl rfl rfl (ap c).1 (ap c).2 rfl) ⟨rfl,rfl,trivial⟩ ?_;refine aG (aI (bn ?_));exact jz ((),List.set y6.1 (Int.toNat y6.2) 0) h [1,3,0]
       .refine ba (aI (bn ?_));exact jz ((),y6.1) h [0,2,3]
     .refine ba (aI (bn ?_));exact jz ((),y6.1) h [0,1,2]
   .refine ae ?_;obtain⟨J,u,h⟩:=aa h;refine jb (bh rfl u) ?_;refine mq (nl ?_);exact jz ((),(x8,J)) h [0,1,2]
  .refine xa ?_;exact jz ((),y6.1) h [1,2]
 .
  refine sr (fr 1 ?_);refine lo gh ?_;refine fr 1 ?_;refine aS rfl rfl (aN rfl gh rfl rfl rfl) ⟨rfl,rfl,trivial⟩ ?_;refine nt (aD ?_);obtain rfl:=Option.some.inj h;exact aV () [.rep Tr x4] 0 ⟨⟨_,_,_,_,_,rfl,(.head _),gh,(oM),rfl⟩,trivial⟩ rfl
def fU(k:Nat)(a0:Int)(a1:Int):Option Int:=
 (bV (0≤a1)).bind λ_=>
 some (yT .u8 a0 (qf .u8 1 a1))
theorem jB(k:Nat)(a0:Int)(a1:Int)(r:Int)(h:fU k a0 a1=some r):
 cX Tryz.prog 34 [.eq (.int .u8 a0),I a1] [] (λ_:Unit=>(bz [.eq (.int .u8 r)],[])):=by
 unfold fU at h
 replace h:=aW h
 refine cX.of 9 Tryz.func34 rfl Tryz.ntmps34 rfl λS w0=>?_
 refine sr ?_
 refine cq ?_
 refine nt ?_
 refine sr ?_
 iterate 2 refine mq ?_
 obtain⟨u1,c,h⟩:=aa h
 refine jb (PM rfl (ap c)) ?_
 refine jb (TB rfl) ?_
 refine aq ?_
 refine nt ?_
 refine aD ?_
 cases h
 exact ra
def eB(k:Nat)(a0:Int)(a1:Int)(a2:Int):Option Bool:=
 ((if a1≤a0 then(some (decide (a0≤a2))) else(some false)):Option (Bool)).bind λx1=>
 some x1
theorem eI(k:Nat)(a0:Int)(a1:Int)(a2:Int)(r:Bool)(h:eB k a0 a1 a2=some r):
 cX Tryz.prog 70 [I a0,I a1,I a2] [] (λ_:Unit=>(bz [.eq (.bool r)],[])):=by
 unfold eB at h
 replace h:=aW h
 refine cX.of 15 Tryz.func70 rfl Tryz.ntmps70 rfl λS w0=>?_
 refine sr ?_
 refine cq ?_
 refine nt ?_
 refine aC (Z:=Unit) (α:=Bool) (λz2 x1=>[(6,.eq (.bool x1))]) (λz2 x1=>[]) h (λK h=>?_) (λz2 x1 h=>?_)
 .
  refine ae ?_;iterate 2 refine mq ?_
  refine jb (yK rfl) ?_;refine mq ?_;refine bU (s:=10) rfl (λhb=>?_) (λhb=>?_)
  .replace h:=dO (uE hb) h;refine gm ?_;refine gm ?_;refine gb (yK rfl) ?_;refine pt ?_;refine aq (nl ?_);exact jz ((),decide (a0≤a2)) h []
  .replace h:=bZ (uF hb) h;iterate 3 refine gn ?_
   refine pf ?_;refine aq (nl ?_);exact jz ((),false) h []
 .
  refine aD ?_;cases h;exact ra
def dB(k:Nat)(a0:ab)(x8:(List Int)):Nat->(Int×Int)->Option (Except Int Int)
 |0,_=>none
 |n+1,y9=>
  if y9.2 < (x8.length:Int) then((aH x8 y9.2).bind λc=>
  (ck (a0.1 - 1)).bind λh=>
  (eB k c 0 h).bind λr=>
  if¬(r=true) then(some (.error 3)) else((fW k y9.1 c).bind λl=>
  if l=true then(some (.error 4)) else((fU k y9.1 c).bind λj=>
  (ck (y9.2+1)).bind λe=>
  dB k a0 x8 n (j,e)))) else(some (.ok y9.1))
def dC(k:Nat)(a0:ab)(a1:(List (List Int))):Nat->(Int×Int)->Option (Except Int Unit)
 |0,_=>none
 |n+1,y4=>
  if y4.2 < (a1.length:Int) then(bE (α:=Int) ((aH a1 y4.2).bind λx8=>
  dB k a0 x8 k (y4.1,0)) (λe=>some (.error e)) λx6=>
  (ck (y4.2+1)).bind λc=>
  dC k a0 a1 n (x6,c)) else(some (.ok ()))
def ko(k:Nat)(a0:ab)(a1:(List (List Int))):Option Int:=
 if 3 < (a1.length:Int) then(some 6) else(bE (α:=Unit) (dC k a0 a1 k (0,0)) (some) λ_=>
 some 0)
theorem vg(k:Nat)(a0:ab)(a1:(List (List Int)))(r:Int)(h:ko k a0 a1=some r):
 cX Tryz.prog 92 [.rep am a0,.rep (.slice Tl) a1] [] (λ_:Unit=>(bz [I r],[])):=by
 unfold ko at h
 replace h:=aW h
 refine cX.of 39 Tryz.func92 rfl Tryz.ntmps92 rfl λS w0=>?_
 refine sr ?_
 refine bx λb1=>?_
 refine cq ?_
 refine nt ?_
 refine ai ?_
 refine sr ?_
 refine mq ?_
 refine ol nk ?_
 refine jb (iM rfl) ?_
 refine nt ?_
 refine ci h (λh=>?_) (λh=>?_)
 .
  refine sr (cq (nt (rx ?_)));cases h;exact ra
 .
  refine sk (sr (cq (nt ?_)));refine cO (Z:=Unit) (α:=Unit) (λz3 x2=>[]) (λz3 x2=>[]) (λe=>e=r) h (λe h=>Option.some.inj h) (λK hR h=>?_) (λz3 x2 h=>?_)
  .refine sr (mq ?_);refine ol nk ?_;refine fF rfl ?_;refine nt (ah (aE (λz5 y4=>[(2,Pt b1),(5,.eq (.int .u8 y4.1)),(13,.rep (.slice Tl) a1),(14,I (a1.length:Int)),(15,I y4.2)]) (λz5 y4=>[.obj b1 25 (.rep am a0)]) (dC k a0 a1) k () (0,0) (λ_=>rfl) h (SE.fin [0] ⟨rfl,rfl,rfl,rfl,rfl,trivial⟩ rfl) (λn z5 y4 h=>?_)));unfold dC at h;refine sr (jb (bj rfl) ?_);refine nt (ai (ci h (λh=>?_) (λh=>?_)))
   .refine sk (cO (Z:=Unit) (α:=Int) (λz7 x6=>[(2,Pt b1),(5,.eq (.int .u8 x6)),(13,.rep (.slice Tl) a1),(14,I (a1.length:Int)),(15,I y4.2)]) (λz7 x6=>[.obj b1 25 (.rep am a0)]) (λe=>e=r) h (λe h=>hR e h) (λK hR h=>?_) (λz7 x6 h=>?_))
    .refine ah (sr ?_);obtain⟨x8,X,h⟩:=aa h;refine jb (ay (t:=Tl) rfl nk ew X) ?_;refine ja (ak (t:=Tl) rfl ew rfl) ?_;refine aq (nt (sr ?_));refine mq ?_;refine ol fD ?_;refine fF rfl ?_;refine nt (ah (aE (λj y9=>[(2,Pt b1),(5,.eq (.int .u8 y9.1)),(13,.rep (.slice Tl) a1),(14,I (a1.length:Int)),(15,I y4.2),(19,.rep Tl x8),(20,I (x8.length:Int)),(21,I y9.2)]) (λj y9=>[.obj b1 25 (.rep am a0)]) (dB k a0 x8) k () (y4.1,0) (λ_=>rfl) h (SE.fin [0] ⟨rfl,rfl,rfl,rfl,rfl,rfl,rfl,rfl,trivial⟩ rfl) (λn j y9 h=>?_)));unfold dB at h;refine sr (jb (bj rfl) ?_);refine nt (ai (ci h (λh=>?_) (λh=>?_)))
     .refine sk (ai (ah (sr ?_)));obtain⟨c,y,h⟩:=aa h;refine jb (ay (t:=Ti) rfl fD bJ y) ?_;refine ja (ak (t:=Ti) rfl bJ rfl) ?_;refine aq (nt (ai (sr ?_)));refine mq ?_;refine fl fx ?_;refine lo bJ ?_;obtain⟨O,x,h⟩:=aa h;refine jb (dR rfl x) ?_;obtain⟨U,F,h⟩:=aa h;refine jc (au [.tmp 25,.const (.int .i64 (0)),.tmp 28] rfl rfl Ap rfl (eI k c 0 O U F)) ?_;refine ja (eS rfl) ?_;refine nt (cw h (λh=>?_) (λh=>?_))
      .refine sr (cq (nt (rx (br (aX (br (aX (bg ?_))))))));obtain rfl:=hR _ h;exact ra
      .refine sk (ai (sr ?_));iterate 2 refine mq ?_
       obtain⟨Q,E,h⟩:=aa h;refine jb (au [.tmp 31,.tmp 32] rfl rfl KN rfl (iO k y9.1 c Q E)) ?_;refine nt (cv h (λh=>?_) (λh=>?_))
       .refine sr (cq (nt (rx (br (aX (br (aX (bg ?_))))))));obtain rfl:=hR _ h;exact ra
       .refine sk (ae ?_);iterate 2 refine mq ?_
        obtain⟨l,D,h⟩:=aa h;refine jb (au [.tmp 34,.tmp 35] rfl rfl Og rfl (jB k y9.1 c l D)) ?_;refine aq (aG (aI (tn (ae ?_))));obtain⟨M,u,h⟩:=aa h;refine jb (bh rfl u) ?_;refine mq (nl ?_);exact jz ((),(l,M)) h [0]
     .refine f9 (bO (bO (c9 (bn ?_))));exact jz ((),y9.1) h [0]
    .refine ae ?_;obtain⟨J,s,h⟩:=aa h;refine jb (bh rfl s) ?_;refine mq (nl ?_);exact jz ((),(x6,J)) h [0]
   .refine xa ?_;exact jz ((),()) h []
  .refine sr (cq (nt (aD ?_)));cases h;exact ra
def im(k:Nat)(a0:ab)(a1:aQ):Option Int:=
 (((ck (a0.1 - 1)).bind λx5=>
 (eB k a1.1 0 x5).bind λr6=>
 if¬(r6=true) then(some true) else((eB k a1.2.1 0 (a0.2.2.2.2.1.length:Int)).bind λr7=>
 some (!r7))):Option (Bool)).bind λx3=>
 if x3=true then(some 3) else(some 0)
theorem rV(k:Nat)(a0:ab)(a1:aQ)(r:Int)(h:im k a0 a1=some r):
 cX Tryz.prog 93 [.rep am a0,.rep aL a1] [] (λ_:Unit=>(bz [I r],[])):=by
 unfold im at h
 replace h:=aW h
 refine cX.of 21 Tryz.func93 rfl Tryz.ntmps93 rfl λS w0=>?_
 refine sr ?_
 refine bx λb1=>?_
 refine bx λb2=>?_
 refine cq ?_
 refine nt ?_
 refine ai ?_
 refine aC (Z:=Unit) (α:=Bool) (λz4 x3=>[(20,.eq (.bool x3))]) (λz4 x3=>[]) h (λK h=>?_) (λz4 x3 h=>?_)
 .
  refine ae (fl Am ?_);refine lo bJ ?_;refine fl fx ?_;refine fr 1 ?_;refine lo bJ ?_;obtain⟨x5,c,h⟩:=aa h;refine jb (dR rfl c) ?_;obtain⟨r6,j,h⟩:=aa h;refine jc (au [.tmp 6,.const (.int .i64 (0)),.tmp 9] rfl rfl Ap rfl (eI k a1.1 0 x5 r6 j)) ?_;refine ja (eS rfl) ?_;refine mq ?_;refine bU (s:=12) rfl (λhb=>?_) (λhb=>?_)
  .replace h:=dO (rL hb) h;iterate 7 refine gn ?_
   refine pt (nl ?_);exact jz ((),true) h []
  .replace h:=bZ (mM hb) h;refine ga (av rfl Ak) ?_;refine fr 1 ?_;refine fe rfl rfl rfl rfl rfl rfl (ao rfl bJ jQ rfl) ⟨rfl,trivial⟩ ?_;refine ga (av rfl bW) ?_;refine fr 1 ?_;refine fe rfl rfl rfl rfl rfl rfl (ao rfl fq jQ rfl) ⟨rfl,trivial⟩ ?_;refine ga (o8 rfl rfl pq) ?_;obtain⟨r7,e,h⟩:=aa h;refine gc (au [.tmp 14,.const (.int .i64 (0)),.tmp 17] rfl rfl Ap rfl (eI k a1.2.1 0 (a0.2.2.2.2.1.length:Int) r7 e)) ?_;refine ga (eS rfl) ?_;refine pf (nl ?_);exact jz ((), !r7) h []
 .
  refine cv h (λh=>?_) (λh=>?_)
  .refine sr (cq (nt (rx ?_)));cases h;exact ra
  .refine sk (sr (cq (nt (aD ?_))));cases h;exact ra
def f6(k:Nat)(a0:ab):Nat->Int->Option (Except Int Unit)
 |0,_=>none
 |n+1,c=>
  if c < (a0.2.2.2.2.1.length:Int) then((aH a0.2.2.2.2.1 c).bind λj=>
  (ko k a0 j).bind λe=>
  if¬(e=0) then(some (.error e)) else((ck (c+1)).bind λh=>
  f6 k a0 n h)) else(some (.ok ()))
def f5(k:Nat)(a0:ab):Nat->Int->Option (Except Int Unit)
 |0,_=>none
 |n+1,c=>
  if c < (a0.2.2.2.2.2.length:Int) then((aH a0.2.2.2.2.2 c).bind λj=>
  (im k a0 j).bind λe=>
  if¬(e=0) then(some (.error e)) else((ck (c+1)).bind λh=>
  f5 k a0 n h)) else(some (.ok ()))
def oq(k:Nat)(a0:ab):Option Int:=
 (((eB k a0.1 1 5).bind λr4=>
 if¬(r4=true) then(some true) else((eB k a0.2.1 0 3).bind λr5=>
 if¬(r5=true) then(some true) else((eB k a0.2.2.1 0 3).bind λr6=>
 if¬(r6=true) then(some true) else((eB k a0.2.2.2.1 1 3).bind λr7=>
 some (!r7))))):Option (Bool)).bind λx2=>
 if x2=true then(some 1) else(if(a0.2.2.2.2.1.length:Int) < 1 then(some 7) else(if 6 < (a0.2.2.2.2.1.length:Int) then(some 6) else(bE (α:=Unit) (f6 k a0 k 0) (some) λ_=>
 if 8 < (a0.2.2.2.2.2.length:Int) then(some 6) else(bE (α:=Unit) (f5 k a0 k 0) (some) λ_=>
 some 0))))
theorem zY(k:Nat)(a0:ab)(r:Int)(h:oq k a0=some r):
 cX Tryz.prog 69 [.rep am a0] [] (λ_:Unit=>(bz [I r],[])):=by
 unfold oq at h
 replace h:=aW h
 refine cX.of 73 Tryz.func69 rfl Tryz.ntmps69 rfl λS w0=>?_
 refine sr ?_
 refine bx λb1=>?_
 refine cq ?_
 refine nt ?_
 refine ai ?_
 refine aC (Z:=Unit) (α:=Bool) (λz3 x2=>[(1,Pt b1),(31,.eq (.bool x2))]) (λz3 x2=>[.obj b1 25 (.rep am a0)]) h (λK h=>?_) (λz3 x2 h=>?_)
 .
  refine ae (fl fx ?_);refine lo bJ ?_;obtain⟨r4,Xw,h⟩:=aa h;refine jc (au [.tmp 11,.const (.int .i64 (1)),.const (.int .i64 (5))] rfl rfl Ap rfl (eI k a0.1 1 5 r4 Xw)) ?_;refine ja (eS rfl) ?_;refine mq ?_;refine bU (s:=14) rfl (λhb=>?_) (λhb=>?_)
  .replace h:=dO (rL hb) h;iterate 4 refine gn ?_
   refine pt ?_;refine mq ?_;iterate 4 refine gn ?_
   refine pt ?_;refine mq ?_;iterate 4 refine gn ?_
   refine pt (nl ?_);exact jz ((),true) h [0]
  .replace h:=bZ (mM hb) h;refine ga (av rfl oV) ?_;refine fe rfl rfl rfl rfl rfl rfl (ao rfl bJ jQ rfl) ⟨rfl,trivial⟩ ?_;obtain⟨r5,Xv,h⟩:=aa h;refine gc (au [.tmp 16,.const (.int .i64 (0)),.const (.int .i64 (3))] rfl rfl Ap rfl (eI k a0.2.1 0 3 r5 Xv)) ?_;refine ga (eS rfl) ?_;refine pf ?_;refine mq ?_;refine bU (s:=20) rfl (λhb=>?_) (λhb=>?_)
   .replace h:=dO (rL hb) h;iterate 4 refine gn ?_
    refine pt ?_;refine mq ?_;iterate 4 refine gn ?_
    refine pt (nl ?_);exact jz ((),true) h [0]
   .replace h:=bZ (mM hb) h;refine ga (av rfl so) ?_;refine fe rfl rfl rfl rfl rfl rfl (ao rfl bJ jQ rfl) ⟨rfl,trivial⟩ ?_;obtain⟨r6,zz,h⟩:=aa h;refine gc (au [.tmp 22,.const (.int .i64 (0)),.const (.int .i64 (3))] rfl rfl Ap rfl (eI k a0.2.2.1 0 3 r6 zz)) ?_;refine ga (eS rfl) ?_;refine pf ?_;refine mq ?_;refine bU (s:=26) rfl (λhb=>?_) (λhb=>?_)
    .replace h:=dO (rL hb) h;iterate 4 refine gn ?_
     refine pt (nl ?_);exact jz ((),true) h [0]
    .replace h:=bZ (mM hb) h;refine ga (av rfl uA) ?_;refine fe rfl rfl rfl rfl rfl rfl (ao rfl bJ jQ rfl) ⟨rfl,trivial⟩ ?_;obtain⟨r7,qt,h⟩:=aa h;refine gc (au [.tmp 28,.const (.int .i64 (1)),.const (.int .i64 (3))] rfl rfl Ap rfl (eI k a0.2.2.2.1 1 3 r7 qt)) ?_;refine ga (eS rfl) ?_;refine pf (nl ?_);exact jz ((), !r7) h [0]
 .
  refine cv h (λh=>?_) (λh=>?_)
  .refine sr (cq (nt (rx ?_)));cases h;exact ra
  .refine sk (ai (sr (fl bW ?_)));refine lo fq ?_;refine ol pq ?_;refine aq (nt (ah (sr ?_)));refine mq ?_;refine jb (bj rfl) ?_;refine aq (nt ?_);refine ci h (λh=>?_) (λh=>?_)
   .refine sr (cq (nt (aD (aX (bg ?_)))));cases h;exact ra
   .refine sr (mq ?_);refine jb (iM rfl) ?_;refine aq (nt ?_);refine ci h (λh=>?_) (λh=>?_)
    .refine sr (cq (nt (aD (aX (bg ?_)))));cases h;exact ra
    .refine ba (aI (tn (cO (Z:=Unit) (α:=Unit) (λz9 x8=>[(1,Pt b1)]) (λz9 x8=>[.obj b1 25 (.rep am a0)]) (λe=>e=r) h (λe h=>Option.some.inj h) (λK hR h=>?_) (λz9 x8 h=>?_))))
     .refine sr (fl bW ?_);refine lo fq ?_;refine ol pq ?_;refine fF rfl ?_;refine nt (ah (aE (λx j=>[(1,Pt b1),(42,.rep (.slice (.slice Tl)) a0.2.2.2.2.1),(43,I (a0.2.2.2.2.1.length:Int)),(44,I j)]) (λx j=>[.obj b1 25 (.rep am a0)]) (f6 k a0) k () 0 (λ_=>rfl) h (SE.fin [0] ⟨rfl,rfl,rfl,rfl,trivial⟩ rfl) (λn x j h=>?_)));unfold f6 at h;refine sr (jb (bj rfl) ?_);refine nt (ai (ci h (λh=>?_) (λh=>?_)))
      .refine sk (ai (ah (sr ?_)));obtain⟨Y,J,h⟩:=aa h;refine jb (ay (t:=(.slice Tl)) rfl pq kB J) ?_;refine ja (ak (t:=(.slice Tl)) rfl kB rfl) ?_;refine aq (nt (sr ?_));refine lo cY ?_;refine mq ?_;obtain⟨mw,O,h⟩:=aa h;refine jb (au [.tmp 48,.tmp 49] rfl rfl V3 rfl (vg k a0 Y mw O)) ?_;refine aq (nt (sr ?_));refine mq ?_;refine jb (dZ rfl) ?_;refine nt (cn h (λh=>?_) (λh=>?_))
       .refine sr (mq ?_);refine aq (nt (aD (br (aX (bg ?_)))));obtain rfl:=hR _ h;exact ra
       .refine ba (aI (tn (ae ?_)));obtain⟨X,F,h⟩:=aa h;refine jb (bh rfl F) ?_;refine mq (nl ?_);exact jz ((),X) h [0]
      .refine xa ?_;exact jz ((),()) h [0]
     .refine ai (sr (fl fH ?_));refine lo nh ?_;refine ol DI ?_;refine jb (iM rfl) ?_;refine nt (ci h (λh=>?_) (λh=>?_))
      .refine sr (cq (nt (rx ?_)));cases h;exact ra
      .refine sk (cO (Z:=Unit) (α:=Unit) (λu y=>[]) (λu y=>[]) (λe=>e=r) h (λe h=>Option.some.inj h) (λK hR h=>?_) (λu y h=>?_))
       .refine sr (fl fH ?_);refine lo nh ?_;refine ol DI ?_;refine fF rfl ?_;refine nt (ah (aE (λl c=>[(1,Pt b1),(60,Rs aL a0.2.2.2.2.2),(61,I (a0.2.2.2.2.2.length:Int)),(62,I c)]) (λl c=>[.obj b1 25 (.rep am a0)]) (f5 k a0) k () 0 (λ_=>rfl) h (SE.fin [0] ⟨rfl,rfl,rfl,rfl,trivial⟩ rfl) (λn l c h=>?_)));unfold f5 at h;refine sr (jb (bj rfl) ?_);refine nt (ai (ci h (λh=>?_) (λh=>?_)))
        .refine sk (ai (ah (sr ?_)));obtain⟨U,E,h⟩:=aa h;refine jb (ay (t:=aL) rfl DI nN E) ?_;refine ja (ak (t:=aL) rfl nN rfl) ?_;refine bf rfl rfl rfl (bA rfl GX OM) trivial λXx=>?_;refine aS rfl rfl (aN rfl nN rfl rfl rfl) ⟨rfl,rfl,trivial⟩ ?_;refine nt (sr (fr 1 ?_));refine lo cY ?_;refine fr 1 ?_;refine lo nN ?_;obtain⟨mc,M,h⟩:=aa h;refine jb (au [.tmp 66,.tmp 67] rfl rfl V2 rfl (rV k a0 U mc M)) ?_;refine aq (nt (sr ?_));refine mq ?_;refine jb (dZ rfl) ?_;refine nt (cn h (λh=>?_) (λh=>?_))
         .refine sr (mq ?_);refine aq (nt (aD (br (aX (bg ?_)))));obtain rfl:=hR _ h;exact ra
         .refine ba (aI (tn (ae ?_)));obtain⟨Q,D,h⟩:=aa h;refine jb (bh rfl D) ?_;refine mq (nl ?_);exact jz ((),Q) h [1]
        .refine xa ?_;exact jz ((),()) h []
       .refine sr (cq (nt (aD ?_)));cases h;exact ra
def c7(k:Nat):Nat->((List Int)×Int×Int)->Option (List Int)
 |0,_=>none
 |n+1,y2=>
  if y2.2.1 < y2.2.2 then((aH y2.1 y2.2.2).bind λx4=>
  (aH y2.1 y2.2.1).bind λx5=>
  (aH y2.1 y2.2.1).bind λx6=>
  (aH (List.set y2.1 (Int.toNat y2.2.1) x4) y2.2.2).bind λx7=>
  (ck (y2.2.1+1)).bind λx8=>
  (ck (y2.2.2 - 1)).bind λx9=>
  c7 k n (List.set (List.set y2.1 (Int.toNat y2.2.1) x4) (Int.toNat y2.2.2) x5,x8,x9)) else(some y2.1)
def ij(k:Nat)(a0:(List Int)):Option (List Int):=
 (ck ((a0.length:Int) - 1)).bind λx1=>
 c7 k k (a0,0,x1)
theorem rH(k:Nat)(a0:(List Int))(c:Value)(r:(List Int))(h:ij k a0=some r):
 cX Tryz.prog 42 [.eq c] [.sl c 3 Ti a0] (λ_:Unit=>(bz [],[.sl c 3 Ti r])):=by
 unfold ij at h
 replace h:=aW h
 refine cX.of 28 Tryz.func42 rfl Tryz.ntmps42 rfl λS w0=>?_
 refine sr ?_
 refine mq ?_
 refine ka (oh rfl rfl fD) ?_
 obtain⟨x1,mw,h⟩:=aa h
 refine jb (dR rfl mw) ?_
 refine cq ?_
 refine aq ?_
 refine nt ?_
 refine ah ?_
 refine aE (λz3 y2=>[(0,.eq c),(2,I y2.2.1),(3,I y2.2.2)]) (λz3 y2=>[.sl c 3 Ti y2.1]) (c7 k) k () (a0,0,x1) (λ_=>rfl) h (SE.fin [0] ⟨rfl,rfl,rfl,trivial⟩ rfl) (λn z3 y2 h=>?_)
 unfold c7 at h
 refine ai ?_
 refine sr ?_
 iterate 2 refine mq ?_
 refine jb (bj rfl) ?_
 refine nt ?_
 refine ci h (λh=>?_) (λh=>?_)
 .
  refine sk (ai (ah (qw ?_)));refine bG rfl rfl rfl (aK rfl) ⟨rfl,trivial⟩ ?_;refine bG rfl rfl rfl (aK rfl) ⟨rfl,trivial⟩ ?_;refine bG rfl rfl rfl (aK rfl) ⟨rfl,trivial⟩ ?_;refine bG rfl rfl rfl (aK rfl) ⟨rfl,trivial⟩ ?_;refine bG rfl rfl rfl (aK rfl) ⟨rfl,trivial⟩ ?_;refine bG rfl rfl rfl (aK rfl) ⟨rfl,trivial⟩ ?_;obtain⟨x4,D,h⟩:=aa h;refine ji 0 rfl rfl rfl rfl (cP (t:=Ti) rfl fD bJ D) ⟨rfl,rfl,trivial⟩ ?_;refine ji 0 rfl rfl rfl rfl (iv (i:=Int.toNat y2.2.2) (off:=0) rfl bJ (λ_=>rfl) rfl (dV D).2.2 rfl) ⟨rfl,trivial⟩ ?_;refine bG rfl rfl rfl (aK rfl) ⟨rfl,trivial⟩ ?_;refine bG rfl rfl rfl (aK rfl) ⟨rfl,trivial⟩ ?_;obtain⟨x5,y,h⟩:=aa h;refine ji 0 rfl rfl rfl rfl (cP (t:=Ti) rfl fD bJ y) ⟨rfl,rfl,trivial⟩ ?_;refine ji 0 rfl rfl rfl rfl (iv (i:=Int.toNat y2.2.1) (off:=0) rfl bJ (λ_=>rfl) rfl (dV y).2.2 rfl) ⟨rfl,trivial⟩ ?_;obtain⟨x6,x,h⟩:=aa h;refine ji 0 rfl rfl rfl rfl (cP (t:=Ti) rfl fD bJ x) ⟨rfl,rfl,trivial⟩ ?_;refine uQ 13 [true,true,false,false,true,true,true,true,true,true,true,true,true] [27] [] [] rfl (by kernel_rfl) (by kernel_rfl) (by kernel_rfl) bY (λvs hv hB=>?_);obtain⟨w0,XI,rfl,Y⟩:=aF hv;obtain⟨w1,XH,rfl,X⟩:=aF Y;obtain⟨w2,XG,rfl,U⟩:=aF X;obtain⟨w3,XF,rfl,Q⟩:=aF U;obtain⟨w4,XE,rfl,O⟩:=aF Q;obtain⟨w5,XD,rfl,M⟩:=aF O;obtain⟨w6,XC,rfl,J⟩:=aF M;obtain⟨w7,XB,rfl,F⟩:=aF J;obtain⟨w8,XA,rfl,E⟩:=aF F;obtain⟨w9,Xw,rfl,s⟩:=aF E;obtain⟨Xz,Xv,rfl,l⟩:=aF s;obtain⟨Xy,zz,rfl,j⟩:=aF l;obtain⟨Xx,qt,rfl,e⟩:=aF j;obtain rfl:=qK e;refine⟨[0],[.sl c 3 Ti y2.1],by kernel_rfl,by decide,?_⟩;refine sH rfl rfl (iK (i:=Int.toNat y2.2.1) rfl bJ rfl (oR x) rfl .int rfl) ⟨rfl,rfl,trivial⟩ (by kernel_rfl) ?_;obtain⟨x7,u,h⟩:=aa h;refine xt rfl rfl rfl rfl (cP (t:=Ti) rfl fD bJ u) ⟨rfl,rfl,trivial⟩ (by kernel_rfl) ?_;refine sH rfl rfl (iK (i:=Int.toNat y2.2.2) rfl bJ rfl (oR u) rfl .int rfl) ⟨rfl,rfl,trivial⟩ (by kernel_rfl) ?_;refine xu ?_;refine bv (SE.fin (Γ':=[(0,.eq c),(2,I y2.2.1),(3,I y2.2.2)]) (Δ':=[.sl c 3 Ti (List.set (List.set y2.1 (Int.toNat y2.2.1) x4) (Int.toNat y2.2.2) x5)]) [0] ⟨rfl,rfl,rfl,trivial⟩ rfl) ?_;refine aI (tn (ae (mq ?_)));obtain⟨x8,mc,h⟩:=aa h;refine jb (bh rfl mc) ?_;refine mq ?_;obtain⟨x9,Z,h⟩:=aa h;refine jb (dR rfl Z) ?_;refine aq ?_;refine aq (nl ?_);exact jz ((),(List.set (List.set y2.1 (Int.toNat y2.2.1) x4) (Int.toNat y2.2.2) x5,x8,x9)) h [0]
 .
  refine f9 (bO (bO (c9 (lF ?_))));cases h;exact aV () [] 1 trivial rfl
def ee(k:Nat)(a0:(List Int))(a1:(List Int)):Nat->Int->Option (Except Bool Unit)
 |0,_=>none
 |n+1,y3=>
  if y3 < (a0.length:Int) then((aH a0 y3).bind λx5=>
  (aH a1 y3).bind λx6=>
  if¬(x5=x6) then(some (.error false)) else((ck (y3+1)).bind λx7=>
  ee k a0 a1 n x7)) else(some (.ok ()))
def eJ(k:Nat)(a0:(List Int))(a1:(List Int)):Option Bool:=
 if¬((a0.length:Int)=(a1.length:Int)) then(some false) else(bE (α:=Unit) (ee k a0 a1 k 0) (some) λ_=>
 some true)
theorem fL(k:Nat)(a0:(List Int))(a1:(List Int))(r:Bool)(h:eJ k a0 a1=some r):
 cX Tryz.prog 17 [.rep Tl a0,.rep Tl a1] [] (λ_:Unit=>(bz [.eq (.bool r)],[])):=by
 unfold eJ at h
 replace h:=aW h
 refine cX.of 26 Tryz.func17 rfl Tryz.ntmps17 rfl λS w0=>?_
 refine sr ?_
 refine cq ?_
 refine nt ?_
 refine ai ?_
 refine sr ?_
 refine mq ?_
 refine ol fD ?_
 refine mq ?_
 refine ol fD ?_
 refine jb (dZ rfl) ?_
 refine nt ?_
 refine cn h (λh=>?_) (λh=>?_)
 .
  refine sr (cq (nt (rx ?_)));cases h;exact ra
 .
  refine sk (cO (Z:=Unit) (α:=Unit) (λz2 x1=>[]) (λz2 x1=>[]) (λe=>e=r) h (λe h=>Option.some.inj h) (λK hR h=>?_) (λz2 x1 h=>?_))
  .refine sr (cq (nt (ah ?_)));refine aE (λz4 y3=>[(0,.rep Tl a0),(1,.rep Tl a1),(5,I y3)]) (λz4 y3=>[]) (ee k a0 a1) k () 0 (λ_=>rfl) h (SE.fin [] ⟨rfl,rfl,rfl,trivial⟩ rfl) (λn z4 y3 h=>?_);unfold ee at h;refine ai (sr ?_);iterate 2 refine mq ?_
   refine ol fD ?_;refine jb (bj rfl) ?_;refine nt (ci h (λh=>?_) (λh=>?_))
   .refine sk (ai (ah (ai (bu ?_))));refine dm ?_;refine dm ?_;obtain⟨x5,l,h⟩:=aa h;refine db (ay (t:=Ti) rfl fD bJ l) ?_;refine da (ak (t:=Ti) rfl bJ rfl) ?_;refine dm ?_;refine dm ?_;obtain⟨x6,j,h⟩:=aa h;refine db (ay (t:=Ti) rfl fD bJ j) ?_;refine da (ak (t:=Ti) rfl bJ rfl) ?_;refine df bY ?_;refine jb (dZ rfl) ?_;refine nt (cn h (λh=>?_) (λh=>?_))
    .refine sr (cq (nt (aD (br (aX (bg ?_))))));obtain rfl:=hR _ h;exact ra
    .refine ba (aI (tn (ae (mq ?_))));obtain⟨x7,c,h⟩:=aa h;refine jb (bh rfl c) ?_;refine aq (nl ?_);exact jz ((),x7) h []
   .refine xa ?_;exact jz ((),()) h []
  .refine sr (cq (nt (aD ?_)));cases h;exact ra
def dK{σ:Type}(k:Nat)(a0:Int)(a3:Int)(self:Int->Int->σ->Option (Bool×σ)):Nat->(Int×σ)->Option (Except (Bool×σ) (σ))
 |0,_=>none
 |n+1,y5=>
  if y5.1 < a3 then((fU k a0 y5.1).bind λr7=>
  (ck (y5.1+1)).bind λx8=>
  (self r7 x8 y5.2).bind λr9=>
  if¬(r9.1=true) then(some (.error (false,r9.2))) else((ck (y5.1+1)).bind λc=>
  dK k a0 a3 self n (c,r9.2))) else(some (.ok y5.2))
def dP{σ:Type}(k:Nat)(Y:σ->Int->Option (σ×Bool))(a3:Int):Nat->Int->Int->σ->Option (Bool×σ)
 |0,_,_,_=>none
 |m0+1,a0,a1,s0=>
  (Y s0 a0).bind λr1=>
  if¬(r1.2=true) then(some (false,r1.1)) else(bE (α:=σ) (dK k a0 a3 (dP k Y a3 m0) k (a1,r1.1)) (some) λx3=>
  some (true,x3))
theorem uh{M:Md Tryz.prog}{σ Z:Type}(E:Z->σ->List D)(l:Nat)(Y:σ->Int->Option (σ×Bool))(k:Nat)(u:Nat)(a3:Int)(j:Nat)(c:Nat)(hY:∀z s p r,Y s p=some r->YT M l [.eq (.int .u8 p)] (E z s) (λz':Z=>(.eq (.bool r.2),E z' r.1))):
 ∀(n:Nat) (a0:Int) (a1:Int) (z0:Z) (s0:σ) (r:Bool×σ),dP k Y a3 n a0 a1 s0=some r->cC M 77 [.eq (.int .u8 a0),I a1,Pt u,Pt j,Pt c] ([.obj u 95 (.eq (.func (.yield l) #[] #[])),.obj j 3 (I a3),.obj c 94 (.eq (.func (.func 77) #[] #[(Pv u),(Pv j),(Pv c)]))]++E z0 s0) (λz:Z=>(bz [.eq (.bool r.1)],[.obj u 95 (.eq (.func (.yield l) #[] #[])),.obj j 3 (I a3),.obj c 94 (.eq (.func (.func 77) #[] #[(Pv u),(Pv j),(Pv c)]))]++E z r.2)):=by
 intro n
 induction n with
 |zero=>intro a0 a1 z0 s0 r h;cases h
 |succ m0 ih=>
  intro a0 a1 z0 s0 r h;rw [dP] at h;replace h:=aW h;refine cC.of 27 Tryz.func77 rfl Tryz.ntmps77 rfl λS w0=>?_;refine sr (cq (nt (ai (sr ?_))));refine lo Vt ?_;refine mq ?_;obtain⟨r1,U,h⟩:=aa h;refine fr 2 ?_;refine fr 2 ?_;refine fr 2 ?_;refine Lt [.obj u 95 (.eq (.func (.yield l) #[] #[])),.obj j 3 (I a3),.obj c 94 (.eq (.func (.func 77) #[] #[(Pv u),(Pv j),(Pv c)]))] rfl rfl rfl (M8 [.tmp 10] rfl rfl rfl (hY z0 s0 a0 r1 U)) ⟨rfl,rfl,trivial⟩ λz2=>?_;refine ja (eS rfl) ?_;refine nt (cw h (λh=>?_) (λh=>?_))
  .refine sr (cq (nt (rx ?_)));cases h;exact vG z2 [_] ⟨rfl,trivial⟩ rfl
  .refine sk (cO (Z:=Z) (α:=σ) (λz4 x3=>[]) (λz4 x3=>[.obj u 95 (.eq (.func (.yield l) #[] #[])),.obj j 3 (I a3),.obj c 94 (.eq (.func (.func 77) #[] #[(Pv u),(Pv j),(Pv c)]))]++E z4 x3) (λe=>e=r) h (λe h=>Option.some.inj h) (λK hR h=>?_) (λz4 x3 h=>?_))
   .refine sr (mq ?_);refine aq (nt (ah ?_));refine aE (Z:=Z) (α:=Int×σ) (λz6 y5=>[(0,.eq (.int .u8 a0)),(3,Pt j),(4,Pt c),(8,I y5.1)]) (λz6 y5=>[.obj j 3 (I a3),.obj c 94 (.eq (.func (.func 77) #[] #[(Pv u),(Pv j),(Pv c)])),.obj u 95 (.eq (.func (.yield l) #[] #[]))]++E z6 y5.2) (dK k a0 a3 (dP k Y a3 m0)) k z2 (a1,r1.1) (λ_=>rfl) h (l6 [.obj u 95 (.eq (.func (.yield l) #[] #[])),.obj j 3 (I a3),.obj c 94 (.eq (.func (.func 77) #[] #[(Pv u),(Pv j),(Pv c)]))] (E z2 r1.1) [1,2,0] ⟨rfl,rfl,rfl,rfl,trivial⟩ rfl) (λn z6 y5 h=>?_);unfold dK at h;refine ai (sr (mq ?_));refine lo bJ ?_;refine jb (bj rfl) ?_;refine nt (ci h (λh=>?_) (λh=>?_))
    .refine sk (ai (ah (ai (bu ?_))));refine ea 1 (ao rfl Ql jQ rfl) ?_;refine dm ?_;refine dm ?_;obtain⟨r7,Q,h⟩:=aa h;refine db (au [.tmp 20,.tmp 21] rfl rfl Og rfl (jB k a0 y5.1 r7 Q)) ?_;refine dm ?_;obtain⟨x8,J,h⟩:=aa h;refine db (bh rfl J) ?_;refine df bY ?_;obtain⟨r9,O,h⟩:=aa h;refine fr 1 ?_;refine fr 1 ?_;refine fr 2 ?_;refine Dm rfl rfl rfl (s8 (fs:=[]) (cs:=[(Pv u),(Pv j),(Pv c)]) (ags:=[.eq (.int .u8 r7),I x8]) [.tmp 22,.tmp 24] rfl rfl Ul rfl (ih r7 x8 z6 y5.2 r9 O)) ⟨rfl,rfl,rfl,trivial⟩ λx=>?_;refine ja (eS rfl) ?_;refine nt (cw h (λh=>?_) (λh=>?_))
     .refine sr (cq (nt (aD (br (aX (bg ?_))))));obtain rfl:=hR _ h;exact vG x [_] ⟨rfl,trivial⟩ rfl
     .refine ba (aI (tn (ae (mq ?_))));obtain⟨F,y,h⟩:=aa h;refine jb (bh rfl y) ?_;refine aq (nl ?_);exact xy (x,(F,r9.2)) h (l6 [.obj u 95 (.eq (.func (.yield l) #[] #[])),.obj j 3 (I a3),.obj c 94 (.eq (.func (.func 77) #[] #[(Pv u),(Pv j),(Pv c)]))] (E x r9.2) [1,2,0] ⟨rfl,rfl,rfl,rfl,trivial⟩ rfl)
    .refine xa ?_;exact xy (z6,y5.2) h (l6 [.obj j 3 (I a3),.obj c 94 (.eq (.func (.func 77) #[] #[(Pv u),(Pv j),(Pv c)])),.obj u 95 (.eq (.func (.yield l) #[] #[]))] (E z6 y5.2) [2,0,1] trivial rfl)
   .refine sr (cq (nt (aD ?_)));cases h;exact vG z4 [_] ⟨rfl,trivial⟩ rfl
def ll{σ:Type}(k:Nat)(Y:σ->Int->Option (σ×Bool))(a1:Int)(s0:σ):Option (σ):=
 (dP k Y a1 k 0 0 s0).bind λr3=>
 some r3.2
theorem pY{M:Md Tryz.prog}{σ Z:Type}(E:Z->σ->List D)(l:Nat)(Y:σ->Int->Option (σ×Bool))(k:Nat)(a1:Int)(c:Nat)(hY:∀z s p r,Y s p=some r->YT M l [.eq (.int .u8 p)] (E z s) (λz':Z=>(.eq (.bool r.2),E z' r.1))):
 ∀(z0:Z) (s0:σ) (r:σ),ll k Y a1 s0=some r->cC M 76 [.eq (.func (.yield l) #[] #[]),Pt c] ([.obj c 3 (I a1)]++E z0 s0) (λz:Z=>(bz [],[.obj c 3 (I a1)]++E z r)):=by
 intro z0 s0 r h
 unfold ll at h
 replace h:=aW h
 refine cC.of 7 Tryz.func76 rfl Tryz.ntmps76 rfl λS w0=>?_
 refine sr ?_
 refine bx λb1=>?_
 refine nt ?_
 refine sr ?_
 refine bf rfl rfl rfl (bA rfl Vn WP) trivial λb2=>?_
 refine nt ?_
 refine sr ?_
 refine jc (t6 [] [.tmp 2,.tmp 1,.tmp 3] [] [(Pv b1),(Pv c),(Pv b2)] rfl rfl rfl) ?_
 refine aS rfl rfl (aN rfl Ql rfl rfl rfl) ⟨rfl,rfl,trivial⟩ ?_
 refine nt ?_
 refine ae ?_
 refine lo Ql ?_
 obtain⟨r3,e,h⟩:=aa h
 have j:=uh E l Y k b1 a1 c b2 hY k 0 0 z0 s0 r3 e
 refine fr 2 ?_
 refine fr 2 ?_
 refine Dm rfl rfl rfl (s8 (fs:=[]) (cs:=[(Pv b1),(Pv c),(Pv b2)]) (ags:=[.eq (.int .u8 0),I 0]) [.const (.int .u8 (0)),.const (.int .i64 (0))] rfl rfl Ul rfl j) ⟨rfl,rfl,rfl,trivial⟩ λz4=>?_
 refine aG ?_
 refine lF ?_
 refine bv (l6 (Γ':=[]) [.obj b1 95 (.eq (.func (.yield l) #[] #[])),.obj c 3 (I a1),.obj b2 94 (.eq (.func (.func 77) #[] #[(Pv b1),(Pv c),(Pv b2)]))] (E z4 r3.2) [1] trivial rfl) ?_
 cases h
 exact vG z4 [] trivial rfl
theorem tg(a0:Int):cX Tryz.prog 46 [I a0] [] (λz:Nat=>(bz [.eq (.func (.func 76) #[] #[(Pv z)])],[.obj z 3 (I a0)])):=by
 refine cX.of 4 Tryz.func46 rfl Tryz.ntmps46 rfl λS w0=>?_;refine sr (bx λz=>?_);refine cq (nt (sr ?_));refine ja (t6 [] [.tmp 1] [] [(Pv z)] rfl rfl rfl) ?_;refine aq (nt (aD ?_));exact aV z [_] 1 ⟨rfl,trivial⟩ rfl
def d5(k:Nat)(a0:Int):Nat->((List Int)×Int)->Option (List Int)
 |0,_=>none
 |n+1,y3=>
  if y3.2 < 5 then((((fW k a0 y3.2).bind λr7=>
  if r7=true then((bV (bb (length y3.1+length [y3.2]))).bind λ_=>
  some (y3.1++[y3.2])) else(some y3.1)):Option ((List Int))).bind λx5=>
  (ck (y3.2+1)).bind λc=>
  d5 k a0 n (x5,c)) else(some y3.1)
def fV(k:Nat)(a0:Int):Option (List Int):=
 ((d5 k a0 k (([]:(List Int)),0)):Option ((List Int))).bind λx1=>
 some x1
theorem jC(k:Nat)(a0:Int)(r:(List Int))(h:fV k a0=some r):
 cX Tryz.prog 32 [.eq (.int .u8 a0)] [] (λ_:Unit=>(bz [.rep Tl r],[])):=by
 unfold fV at h
 replace h:=aW h
 refine cX.of 17 Tryz.func32 rfl Tryz.ntmps32 rfl λS w0=>?_
 refine sr ?_
 refine cq ?_
 refine nt ?_
 refine sr ?_
 refine cq ?_
 refine nt ?_
 refine aC (Z:=Value) (α:=(List Int)) (λz2 x1=>[(3,.eq z2)]) (λz2 x1=>[.sl z2 3 Ti x1]) h (λK h=>?_) (λz2 x1 h=>?_)
 .
  refine sr (fF rfl ?_);refine nt (ah (gi (SE.nil 3 Ti) ?_));refine aE (λz4 y3=>[(0,.eq (.int .u8 a0)),(3,.eq z4),(5,I y3.2)]) (λz4 y3=>[.sl z4 3 Ti y3.1]) (d5 k a0) k (.slice none 0 0) (([]:(List Int)),0) (λ_=>rfl) h (SE.fin [0] ⟨rfl,rfl,rfl,trivial⟩ rfl) (λn z4 y3 h=>?_);unfold d5 at h;refine sr (jb (bj rfl) ?_);refine nt (ai (ci h (λh=>?_) (λh=>?_)))
  .refine sk (aC (Z:=Value) (α:=(List Int)) (λz6 x5=>[(0,.eq (.int .u8 a0)),(3,.eq z6),(5,I y3.2)]) (λz6 x5=>[.sl z6 3 Ti x5]) h (λK h=>?_) (λz6 x5 h=>?_))
   .refine ah (sr (mq ?_));refine aq (nt (sr ?_));iterate 2 refine mq ?_
    obtain⟨r7,l,h⟩:=aa h;refine jb (au [.tmp 8,.tmp 9] rfl rfl KN rfl (iO k a0 y3.2 r7 l)) ?_;refine nt (cv h (λh=>?_) (λh=>?_))
    .refine ae ?_;iterate 2 refine mq ?_
     refine ja (aR (t:=Ti) [(.tmp 12,_)] [y3.2] rfl rfl cH (.cons rfl .int .nil) rfl rfl) ?_;obtain⟨u8,j,h⟩:=aa h;refine cz rfl rfl rfl (bi rfl rfl cH (ap j)) ⟨rfl,rfl,trivial⟩ λv9=>?_;refine aq (aG (bn ?_));exact jz (v9,y3.1++[y3.2]) h [0]
    .refine ba (bn ?_);exact jz (z4,y3.1) h [0]
   .refine ae ?_;obtain⟨e,c,h⟩:=aa h;refine jb (bh rfl c) ?_;refine mq (nl ?_);exact jz (z6,(x5,e)) h [0]
  .refine xa ?_;exact jz (z4,y3.1) h [0]
 .
  refine sr (mq ?_);refine aq (nt (aD ?_));refine bv (fy [2,3,16] ⟨rfl,rfl,rfl,trivial⟩) ?_;cases h;exact ra
def lW(k:Nat)(a0:Int):Option Int:=
 (fV k a0).bind λr1=>
 some (r1.length:Int)
theorem pg(k:Nat)(a0:Int)(r:Int)(h:lW k a0=some r):
 cX Tryz.prog 52 [.eq (.int .u8 a0)] [] (λ_:Unit=>(bz [I r],[])):=by
 unfold lW at h
 replace h:=aW h
 refine cX.of 6 Tryz.func52 rfl Tryz.ntmps52 rfl λS w0=>?_
 refine sr ?_
 refine cq ?_
 refine nt ?_
 refine sr ?_
 refine mq ?_
 obtain⟨r1,c,h⟩:=aa h
 have e:=jC k a0 r1 c
 refine ja (au [.tmp 3] rfl rfl Oh rfl e) ?_
 refine ol fD ?_
 refine aq ?_
 refine nt ?_
 refine aD ?_
 cases h
 exact ra
def oP(k:Nat)(a0:Int)(a1:Int):Option Int:=
 (lW k a0).bind λr1=>
 (lW k a1).bind λr2=>
 (ck (r1 - r2)).bind λx3=>
 some x3
theorem vf(k:Nat)(a0:Int)(a1:Int)(c:Nat)(r:Int)(h:oP k a0 a1=some r):
 cX Tryz.prog 80 [.eq (.int .u8 a0),.eq (.int .u8 a1),Pt c] [.obj c 98 (.eq (.func (.func 52) #[] #[]))] (λ_:Unit=>(bz [I r],[.obj c 98 (.eq (.func (.func 52) #[] #[]))])):=by
 unfold oP at h
 replace h:=aW h
 refine cX.of 13 Tryz.func80 rfl Tryz.ntmps80 rfl λS w0=>?_
 refine sr ?_
 refine cq ?_
 refine nt ?_
 refine ai ?_
 refine bu ?_
 refine ea 0 (ao rfl S9 jQ rfl) ?_
 refine dm ?_
 obtain⟨r1,l,h⟩:=aa h
 have s:=pg k a0 r1 l
 refine db (vy (fs:=[]) (cs:=[]) (ags:=[.eq (.int .u8 a0)]) [.tmp 7] rfl rfl Us rfl s) ?_
 refine ea 0 (ao rfl S9 jQ rfl) ?_
 refine dm ?_
 refine df bY ?_
 obtain⟨r2,j,h⟩:=aa h
 have n:=pg k a1 r2 j
 refine jb (vy (fs:=[]) (cs:=[]) (ags:=[.eq (.int .u8 a1)]) [.tmp 10] rfl rfl Us rfl n) ?_
 obtain⟨x3,e,h⟩:=aa h
 refine jb (dR rfl e) ?_
 refine aq ?_
 refine nt ?_
 refine aD ?_
 cases h
 exact aV () [_] 1 ⟨rfl,trivial⟩ rfl
def hH(k:Nat)(a0:(List Int)):Nat->(Int×Int)->Option Int
 |0,_=>none
 |n+1,y4=>
  if y4.2 < (a0.length:Int) then((((aH a0 y4.2).bind λx8=>
  (oP k x8 y4.1).bind λr9=>
  if r9 < 0 then((aH a0 y4.2).bind λe=>
  some e) else(some y4.1)):Option (Int)).bind λx6=>
  (ck (y4.2+1)).bind λc=>
  hH k a0 n (x6,c)) else(some y4.1)
def lH(k:Nat)(a0:(List Int)):Option Int:=
 if(a0.length:Int) < 1 then(none) else((aH a0 0).bind λx1=>
 ((hH k a0 k (x1,1)):Option (Int)).bind λx2=>
 some x2)
theorem rI(k:Nat)(a0:(List Int))(c_a1_0:Nat)(r:Int)(h:lH k a0=some r):
 cX Tryz.prog 79 [.rep (.slice (.int .u8)) a0,.eq (.func (.func 80) #[] #[(Pv c_a1_0)])] [.obj c_a1_0 98 (.eq (.func (.func 52) #[] #[]))] (λ_:Unit=>(bz [.eq (.int .u8 r)],[.obj c_a1_0 98 (.eq (.func (.func 52) #[] #[]))])):=by
 unfold lH at h
 replace h:=aW h
 refine cX.of 33 Tryz.func79 rfl Tryz.ntmps79 rfl λS w0=>?_
 refine sr ?_
 refine cq ?_
 refine nt ?_
 refine ai ?_
 refine sr ?_
 refine mq ?_
 refine ol AW ?_
 refine jb (bj rfl) ?_
 refine nt ?_
 refine ci h (λh=>?_) (λh=>?_)
 .
  cases h
 .
  refine sk (sr (mq ?_));obtain⟨x1,u,h⟩:=aa h;refine jb (ay (t:=(.int .u8)) rfl AW pA u) ?_;refine ja (ak (t:=(.int .u8)) rfl pA rfl) ?_;refine aq (nt ?_);refine aC (Z:=Unit) (α:=Int) (λz3 x2=>[(5,.eq (.int .u8 x2))]) (λz3 x2=>[.obj c_a1_0 98 (.eq (.func (.func 52) #[] #[]))]) h (λK h=>?_) (λz3 x2 h=>?_)
  .refine sr (cq (nt (ah ?_)));refine aE (λz5 y4=>[(0,.rep (.slice (.int .u8)) a0),(1,.eq (.func (.func 80) #[] #[(Pv c_a1_0)])),(5,.eq (.int .u8 y4.1)),(6,I y4.2)]) (λz5 y4=>[.obj c_a1_0 98 (.eq (.func (.func 52) #[] #[]))]) (hH k a0) k () (x1,1) (λ_=>rfl) h (SE.fin [0] ⟨rfl,rfl,rfl,rfl,trivial⟩ rfl) (λn z5 y4 h=>?_);unfold hH at h;refine ai (sr ?_);iterate 2 refine mq ?_
   refine ol AW ?_;refine jb (bj rfl) ?_;refine nt (ci h (λh=>?_) (λh=>?_))
   .refine sk (aC (Z:=Unit) (α:=Int) (λz7 x6=>[(0,.rep (.slice (.int .u8)) a0),(1,.eq (.func (.func 80) #[] #[(Pv c_a1_0)])),(5,.eq (.int .u8 x6)),(6,I y4.2)]) (λz7 x6=>[.obj c_a1_0 98 (.eq (.func (.func 52) #[] #[]))]) h (λK h=>?_) (λz7 x6 h=>?_))
    .refine ah (sr ?_);iterate 3 refine mq ?_
     obtain⟨x8,s,h⟩:=aa h;refine jb (ay (t:=(.int .u8)) rfl AW pA s) ?_;refine ja (ak (t:=(.int .u8)) rfl pA rfl) ?_;refine mq ?_;obtain⟨r9,x,h⟩:=aa h;refine kc (vy (fs:=[]) (cs:=[(Pv c_a1_0)]) (ags:=[.eq (.int .u8 x8),.eq (.int .u8 y4.1)]) [.tmp 24,.tmp 25] rfl rfl V8 rfl (vf k x8 y4.1 c_a1_0 r9 x)) ?_;refine jb (bj rfl) ?_;refine nt (ci h (λh=>?_) (λh=>?_))
     .refine ae ?_;iterate 2 refine mq ?_
      obtain⟨l,e,h⟩:=aa h;refine jb (ay (t:=(.int .u8)) rfl AW pA e) ?_;refine ja (ak (t:=(.int .u8)) rfl pA rfl) ?_;refine aq (aG (bn ?_));exact jz ((),l) h [0]
     .refine ba (bn ?_);exact jz ((),y4.1) h [0]
    .refine ae (mq ?_);obtain⟨j,c,h⟩:=aa h;refine jb (bh rfl c) ?_;refine aq (nl ?_);exact jz ((),(x6,j)) h [0]
   .refine xa ?_;exact jz ((),y4.1) h [0]
  .refine sr (mq ?_);refine aq (nt (aD ?_));cases h;exact aV () [_] 1 ⟨rfl,trivial⟩ rfl
def rT(k:Nat)(a0:(List Int)):Option Int:=
 (lH k a0).bind λr2=>
 some r2
theorem ye(k:Nat)(a0:(List Int))(r:Int)(h:rT k a0=some r):
 cX Tryz.prog 51 [.rep (.slice (.int .u8)) a0,.eq (.func (.func 52) #[] #[])] [] (λ_:Unit=>(bz [.eq (.int .u8 r)],[])):=by
 unfold rT at h
 replace h:=aW h
 refine cX.of 8 Tryz.func51 rfl Tryz.ntmps51 rfl λS w0=>?_
 refine sr ?_
 refine bx λb1=>?_
 refine cq ?_
 refine nt ?_
 refine sr ?_
 refine mq ?_
 refine ja (t6 [] [.tmp 3] [] [(Pv b1)] rfl rfl rfl) ?_
 obtain⟨r2,c,h⟩:=aa h
 have e:=rI k a0 b1 r2 c
 refine kb (au [.tmp 5,.tmp 6] rfl rfl V9 rfl e) ?_
 refine aq ?_
 refine nt ?_
 refine aD ?_
 cases h
 exact ra
def nP(k:Nat)(a0:List Int):Option (List Int):=
 (bV (bb (length a0))).bind λ_=>some a0
theorem tQ(k:Nat)(a0:List Int)(r:List Int)(h:nP k a0=some r):
 cX Tryz.prog 58 [.rep Tl a0] [] (λz:Value=>(bz [.eq z],[.sl z 3 Ti r])):=by
 unfold nP at h
 replace h:=aW h
 refine cX.of 8 Tryz.func58 rfl Tryz.ntmps58 rfl λS w0=>?_
 obtain⟨u1,c,h⟩:=aa h
 cases h
 refine sr ?_
 refine cq ?_
 refine nt ?_
 refine ai ?_
 refine sr ?_
 refine mq ?_
 refine aU (Δ:=[]) (F:=_) (λ_ _ _=>aj rfl _) rfl rfl (Nj rfl fD) ⟨rfl,rfl,trivial⟩ λb=>?_
 refine nt ?_
 refine kz rfl (λhb=>?_) (λhb=>?_)
 .
  refine sr (cq (nt (rx ?_)));obtain rfl:=b.2 hb;refine bv (SE.nil 3 Ti) ?_;exact aV (.slice none 0 0) [.eq (.slice none 0 0)] 1 ⟨rfl,trivial⟩ rfl
 .
  refine sk (sr (bf rfl rfl rfl (ge (t:=Ti) [] [] rfl rfl cH .nil rfl rfl) trivial λv1=>?_));refine mq ?_;refine cz rfl rfl rfl (bi rfl rfl cH (by simpa using ap c)) ⟨rfl,rfl,trivial⟩ λv2=>?_;refine aq (nt (aD ?_));exact aV v2 [.eq v2] 1 ⟨rfl,trivial⟩ rfl
def mQ(k:Nat)(a0:Int)(a1:Int)(a2:Bool):Option aQ:=
 some (a0,a1,a2)
theorem nR(k:Nat)(a0:Int)(a1:Int)(a2:Bool)(r:aQ)(h:mQ k a0 a1 a2=some r):
 cX Tryz.prog 59 [I a0,I a1,.eq (.bool a2)] [] (λ_:Unit=>(bz [.rep aL r],[])):=by
 unfold mQ at h
 replace h:=aW h
 refine cX.of 11 Tryz.func59 rfl Tryz.ntmps59 rfl λS w0=>?_
 refine sr ?_
 refine bf rfl rfl rfl (bA rfl GX OM) trivial λb1=>?_
 refine nt ?_
 refine sr ?_
 iterate 3 refine mq ?_
 refine jc (eX [(0,.tmp 7,_),(1,.tmp 8,_),(2,.tmp 9,_)] rfl Tn GX PY (kZ ⟨rfl,rfl,rfl,trivial⟩) rfl) ?_
 refine aS rfl rfl (aN rfl nN trivial rfl rfl) ⟨rfl,rfl,trivial⟩ ?_
 refine nt ?_
 refine aD ?_
 refine bv (ie (a:=.agg (.pair (I a0) (.pair (I a1) (.eq (.bool a2))))) (a':=.rep aL (a0,a1,a2)) (kA (.agg (.pair .int (.pair .int .bool))))) ?_
 cases h
 exact aV () [.rep aL (a0,a1,a2)] 0 ⟨⟨_,_,_,_,_,rfl,(.head _),nN,(oM),rfl⟩,trivial⟩ rfl
def jT(k:Nat)(a0:(List aQ)):Option ab:=
 (mQ k 1 2 true).bind λr2=>
 (mQ k 2 1 false).bind λr3=>
 (mQ k 3 3 false).bind λr4=>
 (bV (bb (length [r2,r3,r4]+length a0))).bind λ_=>
 some (4,1,1,2,[[[0,1,2],[3]],[[0,1],[2,3]],[[1,2,3]],[[1,3],[2]]],[r2,r3,r4]++a0)
theorem iZ(k:Nat)(a0:(List aQ))(r:ab)(h:jT k a0=some r):
 cX Tryz.prog 22 [Rs aL a0] [] (λ_:Unit=>(bz [.rep am r],[])):=by
 unfold jT at h
 replace h:=aW h
 refine cX.of 24 Tryz.func22 rfl Tryz.ntmps22 rfl λS w0=>?_
 refine sr ?_
 refine bf rfl rfl rfl (bA rfl u7 yj) trivial λb1=>?_
 refine nt ?_
 refine sr ?_
 obtain⟨r2,l,h⟩:=aa h
 have u:=nR k 1 2 true r2 l
 refine jc (au [.const (.int .i64 (1)),.const (.int .i64 (2)),.const (.bool true)] rfl rfl Ri rfl u) ?_
 obtain⟨r3,j,h⟩:=aa h
 have s:=nR k 2 1 false r3 j
 refine jc (au [.const (.int .i64 (2)),.const (.int .i64 (1)),.const (.bool false)] rfl rfl Ri rfl s) ?_
 obtain⟨r4,e,h⟩:=aa h
 have n:=nR k 3 3 false r4 e
 refine jc (au [.const (.int .i64 (3)),.const (.int .i64 (3)),.const (.bool false)] rfl rfl Ri rfl n) ?_
 refine bf rfl rfl rfl (ge (t:=aL) [(.tmp 4,_),(.tmp 5,_),(.tmp 6,_)] [r2,r3,r4] rfl rfl xR (.cons rfl .rep (.cons rfl .rep (.cons rfl .rep .nil))) rfl rfl) ⟨rfl,rfl,rfl,trivial⟩ λv5=>?_
 refine aq ?_
 refine nt ?_
 refine sr ?_
 refine jc (aR (t:=Ti) [(.const (.int .i64 (0)),_),(.const (.int .i64 (1)),_),(.const (.int .i64 (2)),_)] [0,1,2] rfl rfl cH (.cons rfl .int (.cons rfl .int (.cons rfl .int .nil))) rfl rfl) ?_
 refine ja (aR (t:=Ti) [(.const (.int .i64 (3)),_)] [3] rfl rfl cH (.cons rfl .int .nil) rfl rfl) ?_
 refine jb (aR (t:=Tl) [(.tmp 8,_),(.tmp 9,_)] [[0,1,2],[3]] rfl rfl lS (.cons rfl .rep (.cons rfl .rep .nil)) rfl rfl) ?_
 refine jb (aR (t:=Ti) [(.const (.int .i64 (0)),_),(.const (.int .i64 (1)),_)] [0,1] rfl rfl cH (.cons rfl .int (.cons rfl .int .nil)) rfl rfl) ?_
 refine jb (aR (t:=Ti) [(.const (.int .i64 (2)),_),(.const (.int .i64 (3)),_)] [2,3] rfl rfl cH (.cons rfl .int (.cons rfl .int .nil)) rfl rfl) ?_
 refine jb (aR (t:=Tl) [(.tmp 11,_),(.tmp 12,_)] [[0,1],[2,3]] rfl rfl lS (.cons rfl .rep (.cons rfl .rep .nil)) rfl rfl) ?_
 refine jc (aR (t:=Ti) [(.const (.int .i64 (1)),_),(.const (.int .i64 (2)),_),(.const (.int .i64 (3)),_)] [1,2,3] rfl rfl cH (.cons rfl .int (.cons rfl .int (.cons rfl .int .nil))) rfl rfl) ?_
 refine ja (aR (t:=Tl) [(.tmp 14,_)] [[1,2,3]] rfl rfl lS (.cons rfl .rep .nil) rfl rfl) ?_
 refine jb (aR (t:=Ti) [(.const (.int .i64 (1)),_),(.const (.int .i64 (3)),_)] [1,3] rfl rfl cH (.cons rfl .int (.cons rfl .int .nil)) rfl rfl) ?_
 refine ja (aR (t:=Ti) [(.const (.int .i64 (2)),_)] [2] rfl rfl cH (.cons rfl .int .nil) rfl rfl) ?_
 refine jb (aR (t:=Tl) [(.tmp 16,_),(.tmp 17,_)] [[1,3],[2]] rfl rfl lS (.cons rfl .rep (.cons rfl .rep .nil)) rfl rfl) ?_
 refine cF rfl (aR (t:=(.slice Tl)) [(.tmp 10,_),(.tmp 13,_),(.tmp 15,_),(.tmp 18,_)] [[[0,1,2],[3]],[[0,1],[2,3]],[[1,2,3]],[[1,3],[2]]] rfl rfl vW (.cons rfl .rep (.cons rfl .rep (.cons rfl .rep (.cons rfl .rep .nil)))) rfl rfl) ⟨rfl,rfl,rfl,rfl,trivial⟩ ?_
 iterate 2 refine mq ?_
 obtain⟨u6,c,h⟩:=aa h
 refine cz rfl rfl rfl (bi rfl rfl xR (ap c)) ⟨rfl,rfl,trivial⟩ λv7=>?_
 refine eQ (fy [22] ⟨rfl,trivial⟩) ?_
 refine cF rfl (eX [(0,.const (.int .i64 (4)),_),(1,.const (.int .i64 (1)),_),(2,.const (.int .i64 (1)),_),(3,.const (.int .i64 (2)),_),(4,.tmp 19,_),(5,.tmp 22,_)] rfl To u7 PZ (kZ ⟨rfl,rfl,rfl,rfl,rfl,rfl,trivial⟩) rfl) ⟨rfl,rfl,rfl,rfl,rfl,rfl,trivial⟩ ?_
 refine aS rfl rfl (aN rfl cY trivial rfl rfl) ⟨rfl,rfl,trivial⟩ ?_
 refine nt ?_
 refine aD ?_
 refine bv (ie (a:=.agg (.pair (I 4) (.pair (I 1) (.pair (I 1) (.pair (I 2) (.pair (.rep (.slice (.slice Tl)) [[[0,1,2],[3]],[[0,1],[2,3]],[[1,2,3]],[[1,3],[2]]]) (Rs aL ([r2,r3,r4]++a0)))))))) (a':=.rep am (4,1,1,2,[[[0,1,2],[3]],[[0,1],[2,3]],[[1,2,3]],[[1,3],[2]]],[r2,r3,r4]++a0)) (kA (.agg (.pair .int (.pair .int (.pair .int (.pair .int (.pair .rep .rep)))))))) ?_
 cases h
 exact aV () [.rep am (4,1,1,2,[[[0,1,2],[3]],[[0,1],[2,3]],[[1,2,3]],[[1,3],[2]]],[r2,r3,r4]++a0)] 0 ⟨⟨_,_,_,_,_,rfl,(.head _),cY,(oM),rfl⟩,trivial⟩ rfl
def jZ(k:Nat)(a0:(List Int)):Nat->(Int×Int)->Option Int
 |0,_=>none
 |n+1,y4=>
  if y4.2 < (a0.length:Int) then((aH a0 y4.2).bind λx6=>
  (ck (y4.2+1)).bind λx7=>
  jZ k a0 n (Kv y4.1 x6,x7)) else(some y4.1)
def np(k:Nat)(a0:(List Int)):Option Int:=
 if(a0.length:Int) < 1 then(none) else((aH a0 0).bind λx1=>
 ((jZ k a0 k (x1,1)):Option (Int)).bind λx2=>
 some x2)
theorem pE(k:Nat)(a0:(List Int))(r:Int)(h:np k a0=some r):
 cX Tryz.prog 61 [.rep Tl a0] [] (λ_:Unit=>(bz [I r],[])):=by
 unfold np at h
 replace h:=aW h
 refine cX.of 25 Tryz.func61 rfl Tryz.ntmps61 rfl λS w0=>?_
 refine sr ?_
 refine cq ?_
 refine nt ?_
 refine ai ?_
 refine sr ?_
 refine mq ?_
 refine ol fD ?_
 refine jb (bj rfl) ?_
 refine nt ?_
 refine ci h (λh=>?_) (λh=>?_)
 .
  cases h
 .
  refine sk (sr (mq ?_));obtain⟨x1,j,h⟩:=aa h;refine jb (ay (t:=Ti) rfl fD bJ j) ?_;refine ja (ak (t:=Ti) rfl bJ rfl) ?_;refine aq (nt ?_);refine aC (Z:=Unit) (α:=Int) (λz3 x2=>[(3,I x2)]) (λz3 x2=>[]) h (λK h=>?_) (λz3 x2 h=>?_)
  .refine sr (cq (nt (ah ?_)));refine aE (λz5 y4=>[(0,.rep Tl a0),(3,I y4.1),(4,I y4.2)]) (λz5 y4=>[]) (jZ k a0) k () (x1,1) (λ_=>rfl) h (SE.fin [] ⟨rfl,rfl,rfl,trivial⟩ rfl) (λn z5 y4 h=>?_);unfold jZ at h;refine ai (sr ?_);iterate 2 refine mq ?_
   refine ol fD ?_;refine jb (bj rfl) ?_;refine nt (ci h (λh=>?_) (λh=>?_))
   .refine sk (ai (ah (ae ?_)));iterate 3 refine mq ?_
    obtain⟨x6,e,h⟩:=aa h;refine jb (ay (t:=Ti) rfl fD bJ e) ?_;refine ja (ak (t:=Ti) rfl bJ rfl) ?_;refine jb (TC rfl rfl) ?_;refine aq (aG (aI (tn (ae ?_))));refine mq ?_;obtain⟨x7,c,h⟩:=aa h;refine jb (bh rfl c) ?_;refine aq (nl ?_);exact jz ((),(Kv y4.1 x6,x7)) h []
   .refine xa ?_;exact jz ((),y4.1) h []
  .refine sr (mq ?_);refine aq (nt (aD ?_));cases h;exact ra
def j6(k:Nat)(a0:(List Int)):Nat->(Int×Int)->Option Int
 |0,_=>none
 |n+1,y4=>
  if y4.2 < (a0.length:Int) then((aH a0 y4.2).bind λx6=>
  (ck (y4.2+1)).bind λx7=>
  j6 k a0 n (uw y4.1 x6,x7)) else(some y4.1)
def pG(k:Nat)(a0:(List Int)):Option Int:=
 if(a0.length:Int) < 1 then(none) else((aH a0 0).bind λx1=>
 ((j6 k a0 k (x1,1)):Option (Int)).bind λx2=>
 some x2)
theorem vV(k:Nat)(a0:(List Int))(r:Int)(h:pG k a0=some r):
 cX Tryz.prog 62 [.rep Tl a0] [] (λ_:Unit=>(bz [I r],[])):=by
 unfold pG at h
 replace h:=aW h
 refine cX.of 25 Tryz.func62 rfl Tryz.ntmps62 rfl λS w0=>?_
 refine sr ?_
 refine cq ?_
 refine nt ?_
 refine ai ?_
 refine sr ?_
 refine mq ?_
 refine ol fD ?_
 refine jb (bj rfl) ?_
 refine nt ?_
 refine ci h (λh=>?_) (λh=>?_)
 .
  cases h
 .
  refine sk (sr (mq ?_));obtain⟨x1,j,h⟩:=aa h;refine jb (ay (t:=Ti) rfl fD bJ j) ?_;refine ja (ak (t:=Ti) rfl bJ rfl) ?_;refine aq (nt ?_);refine aC (Z:=Unit) (α:=Int) (λz3 x2=>[(3,I x2)]) (λz3 x2=>[]) h (λK h=>?_) (λz3 x2 h=>?_)
  .refine sr (cq (nt (ah ?_)));refine aE (λz5 y4=>[(0,.rep Tl a0),(3,I y4.1),(4,I y4.2)]) (λz5 y4=>[]) (j6 k a0) k () (x1,1) (λ_=>rfl) h (SE.fin [] ⟨rfl,rfl,rfl,trivial⟩ rfl) (λn z5 y4 h=>?_);unfold j6 at h;refine ai (sr ?_);iterate 2 refine mq ?_
   refine ol fD ?_;refine jb (bj rfl) ?_;refine nt (ci h (λh=>?_) (λh=>?_))
   .refine sk (ai (ah (ae ?_)));iterate 3 refine mq ?_
    obtain⟨x6,e,h⟩:=aa h;refine jb (ay (t:=Ti) rfl fD bJ e) ?_;refine ja (ak (t:=Ti) rfl bJ rfl) ?_;refine jb (Jw rfl rfl) ?_;refine aq (aG (aI (tn (ae ?_))));refine mq ?_;obtain⟨x7,c,h⟩:=aa h;refine jb (bh rfl c) ?_;refine aq (nl ?_);exact jz ((),(uw y4.1 x6,x7)) h []
   .refine xa ?_;exact jz ((),y4.1) h []
  .refine sr (mq ?_);refine aq (nt (aD ?_));cases h;exact ra
def dN(k:Nat)(a0:(List (List Int)))(a1:(List (List Int))):Nat->Int->Option (Except Bool Unit)
 |0,_=>none
 |n+1,y3=>
  if y3 < (a0.length:Int) then((aH a0 y3).bind λx5=>
  (aH a1 y3).bind λx6=>
  (eJ k x5 x6).bind λr7=>
  if¬(r7=true) then(some (.error false)) else((ck (y3+1)).bind λx8=>
  dN k a0 a1 n x8)) else(some (.ok ()))
def gf(k:Nat)(a0:(List (List Int)))(a1:(List (List Int))):Option Bool:=
 if¬((a0.length:Int)=(a1.length:Int)) then(some false) else(bE (α:=Unit) (dN k a0 a1 k 0) (some) λ_=>
 some true)
theorem kK(k:Nat)(a0:(List (List Int)))(a1:(List (List Int)))(r:Bool)(h:gf k a0 a1=some r):
 cX Tryz.prog 26 [.rep (.slice Tl) a0,.rep (.slice Tl) a1] [] (λ_:Unit=>(bz [.eq (.bool r)],[])):=by
 unfold gf at h
 replace h:=aW h
 refine cX.of 27 Tryz.func26 rfl Tryz.ntmps26 rfl λS w0=>?_
 refine sr ?_
 refine cq ?_
 refine nt ?_
 refine ai ?_
 refine sr ?_
 refine mq ?_
 refine ol nk ?_
 refine mq ?_
 refine ol nk ?_
 refine jb (dZ rfl) ?_
 refine nt ?_
 refine cn h (λh=>?_) (λh=>?_)
 .
  refine sr (cq (nt (rx ?_)));cases h;exact ra
 .
  refine sk (cO (Z:=Unit) (α:=Unit) (λz2 x1=>[]) (λz2 x1=>[]) (λe=>e=r) h (λe h=>Option.some.inj h) (λK hR h=>?_) (λz2 x1 h=>?_))
  .refine sr (cq (nt (ah ?_)));refine aE (λz4 y3=>[(0,.rep (.slice Tl) a0),(1,.rep (.slice Tl) a1),(5,I y3)]) (λz4 y3=>[]) (dN k a0 a1) k () 0 (λ_=>rfl) h (SE.fin [] ⟨rfl,rfl,rfl,trivial⟩ rfl) (λn z4 y3 h=>?_);unfold dN at h;refine ai (sr ?_);iterate 2 refine mq ?_
   refine ol nk ?_;refine jb (bj rfl) ?_;refine nt (ci h (λh=>?_) (λh=>?_))
   .refine sk (ai (ah (ai (bu ?_))));refine dm ?_;refine dm ?_;obtain⟨x5,l,h⟩:=aa h;refine db (ay (t:=Tl) rfl nk ew l) ?_;refine da (ak (t:=Tl) rfl ew rfl) ?_;refine dm ?_;refine dm ?_;obtain⟨x6,j,h⟩:=aa h;refine db (ay (t:=Tl) rfl nk ew j) ?_;refine da (ak (t:=Tl) rfl ew rfl) ?_;refine df bY ?_;obtain⟨r7,s,h⟩:=aa h;refine jb (au [.tmp 20,.tmp 24] rfl rfl HF rfl (fL k x5 x6 r7 s)) ?_;refine ja (eS rfl) ?_;refine nt (cw h (λh=>?_) (λh=>?_))
    .refine sr (cq (nt (aD (br (aX (bg ?_))))));obtain rfl:=hR _ h;exact ra
    .refine ba (aI (tn (ae (mq ?_))));obtain⟨x8,c,h⟩:=aa h;refine jb (bh rfl c) ?_;refine aq (nl ?_);exact jz ((),x8) h []
   .refine xa ?_;exact jz ((),()) h []
  .refine sr (cq (nt (aD ?_)));cases h;exact ra
def nE(k:Nat)(a0:(List Int)):Option bL:=
 some (a0,0,1)
theorem wK(k:Nat)(a0:(List Int))(r:bL)(h:nE k a0=some r):
 cX Tryz.prog 7 [.rep Tl a0] [] (λz:Nat=>(bz [Pt z],[.obj z 61 (.agg (.pair (.rep Tl r.1) (.pair (I r.2.1) (.eq (.int .u64 r.2.2)))))])):=by
 unfold nE at h
 replace h:=aW h
 refine cX.of 6 Tryz.func7 rfl Tryz.ntmps7 rfl λS w0=>?_
 refine sr ?_
 refine cq ?_
 refine nt ?_
 refine sr ?_
 refine mq ?_
 refine jb (eX [(0,.tmp 3,_),(2,.const (.int .u64 (1)),_)] rfl Vw Vp UN (kZ ⟨rfl,rfl,trivial⟩) rfl) ?_
 refine bf rfl rfl rfl (yL rfl trivial) ⟨rfl,trivial⟩ λb1=>?_
 refine aq ?_
 refine nt ?_
 refine aD ?_
 cases h
 exact aV b1 [Pt b1] 1 ⟨rfl,trivial⟩ rfl
def i8(k:Nat)(a0:(List Int)):Option (List Int):=
 (bV (bb (length ([]:(List Int))+length a0))).bind λ_=>
 some (([]:(List Int))++a0)
theorem pi(k:Nat)(a0:(List Int))(r:(List Int))(h:i8 k a0=some r):
 cX Tryz.prog 12 [.rep Tl a0] [] (λz:Value=>(bz [.eq z],[.sl z 3 Ti r])):=by
 unfold i8 at h
 replace h:=aW h
 refine cX.of 6 Tryz.func12 rfl Tryz.ntmps12 rfl λS w0=>?_
 refine sr ?_
 refine cq ?_
 refine nt ?_
 refine sr ?_
 refine bf rfl rfl rfl (ge (t:=Ti) [] ([]:(List Int)) rfl rfl cH .nil rfl rfl) trivial λv1=>?_
 refine mq ?_
 obtain⟨u2,c,h⟩:=aa h
 refine cz rfl rfl rfl (bi rfl rfl cH (ap c)) ⟨rfl,rfl,trivial⟩ λv3=>?_
 refine aq ?_
 refine nt ?_
 refine aD ?_
 cases h
 exact aV v3 [.eq v3] 1 ⟨rfl,trivial⟩ rfl
def eD(k:Nat)(a0:(List (List Int))):Nat->((List (List Int))×Int)->Option (List (List Int))
 |0,_=>none
 |n+1,y3=>
  if y3.2 < (a0.length:Int) then((aH a0 y3.2).bind λx5=>
  (i8 k x5).bind λr6=>
  (bV (bb (length y3.1+length [r6]))).bind λ_=>
  (ck (y3.2+1)).bind λc=>
  eD k a0 n (y3.1++[r6],c)) else(some y3.1)
def iw(k:Nat)(a0:(List (List Int))):Option (List (List Int)):=
 ((eD k a0 k (([]:(List (List Int))),0)):Option ((List (List Int)))).bind λx1=>
 some x1
theorem kL(k:Nat)(a0:(List (List Int)))(r:(List (List Int)))(h:iw k a0=some r):
 cX Tryz.prog 30 [.rep (.slice Tl) a0] [] (λz:Value=>(bz [.eq z],[.sl z 28 Tl r])):=by
 unfold iw at h
 replace h:=aW h
 refine cX.of 20 Tryz.func30 rfl Tryz.ntmps30 rfl λS w0=>?_
 refine sr ?_
 refine cq ?_
 refine nt ?_
 refine sr ?_
 refine cq ?_
 refine nt ?_
 refine aC (Z:=Value) (α:=(List (List Int))) (λz2 x1=>[(3,.eq z2)]) (λz2 x1=>[.sl z2 28 Tl x1]) h (λK h=>?_) (λz2 x1 h=>?_)
 .
  refine sr (cq (nt (ah ?_)));refine gi (SE.nil 28 Tl) ?_;refine aE (λz4 y3=>[(0,.rep (.slice Tl) a0),(3,.eq z4),(4,I y3.2)]) (λz4 y3=>[.sl z4 28 Tl y3.1]) (eD k a0) k (.slice none 0 0) (([]:(List (List Int))),0) (λ_=>rfl) h (SE.fin [0] ⟨rfl,rfl,rfl,trivial⟩ rfl) (λn z4 y3 h=>?_);unfold eD at h;refine ai (sr ?_);iterate 2 refine mq ?_
  refine ol nk ?_;refine jb (bj rfl) ?_;refine nt (ci h (λh=>?_) (λh=>?_))
  .refine sk (ai (ah (ae ?_)));iterate 3 refine mq ?_
   obtain⟨x5,j,h⟩:=aa h;refine jb (ay (t:=Tl) rfl nk ew j) ?_;refine ja (ak (t:=Tl) rfl ew rfl) ?_;obtain⟨r6,s,h⟩:=aa h;refine bf rfl rfl rfl (au [.tmp 15] rfl rfl UF rfl (pi k x5 r6 s)) ⟨rfl,trivial⟩ λv7=>?_;refine eQ (fy [16] ⟨rfl,trivial⟩) ?_;refine ja (aR (t:=Tl) [(.tmp 16,_)] [r6] rfl rfl lS (.cons rfl .rep .nil) rfl rfl) ?_;obtain⟨u8,l,h⟩:=aa h;refine cz rfl rfl rfl (bi rfl rfl lS (ap l)) ⟨rfl,rfl,trivial⟩ λv9=>?_;refine aq (aG (aI (tn (ae ?_))));refine mq ?_;obtain⟨e,c,h⟩:=aa h;refine jb (bh rfl c) ?_;refine aq (nl ?_);exact jz (v9,(y3.1++[r6],e)) h [0]
  .refine xa ?_;exact jz (z4,y3.1) h [0]
 .
  refine sr (mq ?_);refine aq (nt (aD ?_));cases h;exact aV z2 [.eq z2] 1 ⟨rfl,trivial⟩ rfl
def dj(k:Nat)(a0:ab):Nat->((List (List (List Int)))×Int)->Option (List (List (List Int)))
 |0,_=>none
 |n+1,y9=>
  if y9.2 < (a0.2.2.2.2.1.length:Int) then((aH a0.2.2.2.2.1 y9.2).bind λh=>
  (iw k h).bind λc=>
  (bV (bb (length y9.1+length [c]))).bind λ_=>
  (ck (y9.2+1)).bind λe=>
  dj k a0 n (y9.1++[c],e)) else(some y9.1)
def fh(k:Nat)(a0:ab):Option ab:=
 (bV (bb (length ([]:(List aQ))+length a0.2.2.2.2.2))).bind λ_=>
 ((dj k a0 k (([]:(List (List (List Int)))),0)):Option ((List (List (List Int))))).bind λx7=>
 some (a0.1,a0.2.1,a0.2.2.1,a0.2.2.2.1,x7,([]:(List aQ))++a0.2.2.2.2.2)
theorem ut(k:Nat)(a0:ab)(r:ab)(h:fh k a0=some r):
 cX Tryz.prog 11 [.rep am a0] [] (λz:Value=>(bz [.agg (.pair (I r.1) (.pair (I r.2.1) (.pair (I r.2.2.1) (.pair (I r.2.2.2.1) (.pair (.rep (.slice (.slice Tl)) r.2.2.2.2.1) (.eq z))))))],[.sl z 27 aL r.2.2.2.2.2])):=by
 unfold fh at h
 replace h:=aW h
 refine cX.of 30 Tryz.func11 rfl Tryz.ntmps11 rfl λS w0=>?_
 refine sr ?_
 refine bx λb1=>?_
 refine bf rfl rfl rfl (bA rfl u7 yj) trivial λb2=>?_
 refine nt ?_
 refine sr ?_
 refine fl bW ?_
 refine fr 1 ?_
 refine lo fq ?_
 refine aq ?_
 refine nt ?_
 refine sr ?_
 refine bf rfl rfl rfl (ge (t:=aL) [] ([]:(List aQ)) rfl rfl xR .nil rfl rfl) trivial λv3=>?_
 refine fl fH ?_
 refine fr 1 ?_
 refine lo nh ?_
 obtain⟨u4,E,h⟩:=aa h
 refine fr 1 ?_
 refine cz rfl rfl rfl (bi rfl rfl xR (ap E)) ⟨rfl,rfl,trivial⟩ λv5=>?_
 refine fl bW ?_
 refine fr 1 ?_
 refine aS rfl rfl (aN rfl fq rfl rfl rfl) ⟨rfl,rfl,trivial⟩ ?_
 refine fl fH ?_
 refine fr 1 ?_
 refine m9 λo6=>?_
 refine fr 1 ?_
 refine aS rfl rfl (aN rfl nh o6 rfl rfl) ⟨rfl,rfl,trivial⟩ ?_
 refine nt ?_
 refine aC (Z:=Value) (α:=(List (List (List Int)))) (λz8 x7=>[(1,Pt b1),(2,Pt b2)]) (λz8 x7=>[.obj b1 25 (.agg (.pair (I a0.1) (.pair (I a0.2.1) (.pair (I a0.2.2.1) (.pair (I a0.2.2.2.1) (.pair (.eq z8) (.eq v5))))))),.sl z8 36 (.slice Tl) x7,.sl v5 27 aL (([]:(List aQ))++a0.2.2.2.2.2),.obj b2 25 (.agg (.pair (I 0) (.pair (I 0) (.pair (I 0) (.pair (I 0) (.pair (.eq (.slice none 0 0)) (.eq (.slice none 0 0))))))))]) h (λK h=>?_) (λz8 x7 h=>?_)
 .
  refine sr (cq (nt (ah ?_)));refine gi (SE.nil 36 (.slice Tl)) ?_;refine dU 1 rfl ?_;refine gi (ie (a:=.agg (.pair (.rep Ti a0.1) (.pair (.rep Ti a0.2.1) (.pair (.rep Ti a0.2.2.1) (.pair (.rep Ti a0.2.2.2.1) (.pair (.eq (.slice none 0 0)) (.eq v5))))))) (a':=.agg (.pair (I a0.1) (.pair (I a0.2.1) (.pair (I a0.2.2.1) (.pair (I a0.2.2.2.1) (.pair (.eq (.slice none 0 0)) (.eq v5))))))) (AE.agg (AE.pair AE.int (AE.pair AE.int (AE.pair AE.int (AE.pair AE.int AE.rfl)))))) ?_;refine aE (λc y9=>[(1,Pt b1),(2,Pt b2),(3,.rep (.slice (.slice Tl)) a0.2.2.2.2.1),(4,I y9.2)]) (λc y9=>[.obj b1 25 (.agg (.pair (I a0.1) (.pair (I a0.2.1) (.pair (I a0.2.2.1) (.pair (I a0.2.2.2.1) (.pair (.eq c) (.eq v5))))))),.sl c 36 (.slice Tl) y9.1,.sl v5 27 aL (([]:(List aQ))++a0.2.2.2.2.2),.obj b2 25 (.agg (.pair (I 0) (.pair (I 0) (.pair (I 0) (.pair (I 0) (.pair (.eq (.slice none 0 0)) (.eq (.slice none 0 0))))))))]) (dj k a0) k (.slice none 0 0) (([]:(List (List (List Int)))),0) (λ_=>rfl) h (SE.fin [0,1,2,3] ⟨rfl,rfl,rfl,rfl,trivial⟩ rfl) (λn c y9 h=>?_);unfold dj at h;refine ai (sr ?_);iterate 2 refine mq ?_
  refine ol pq ?_;refine jb (bj rfl) ?_;refine nt (ci h (λh=>?_) (λh=>?_))
  .refine sk (ai (ah (bu ?_)));refine da (av rfl bW) ?_;refine ea 0 (ao rfl fq jQ rfl) ?_;refine dm ?_;refine dm ?_;obtain⟨y,l,h⟩:=aa h;refine db (ay (t:=(.slice Tl)) rfl pq kB l) ?_;refine da (ak (t:=(.slice Tl)) rfl kB rfl) ?_;obtain⟨e,u,h⟩:=aa h;refine da (tG (au [.tmp 24] rfl rfl Ro rfl (kL k y e u))) ?_;refine da (aR (t:=(.slice Tl)) [(.tmp 25,_)] [e] rfl rfl vW (.cons rfl .rep .nil) rfl rfl) ?_;refine df bY ?_;obtain⟨F,s,h⟩:=aa h;refine fr 1 ?_;refine cz rfl rfl rfl (bi rfl rfl vW (ap s)) ⟨rfl,rfl,trivial⟩ λD=>?_;refine fl bW ?_;refine m9 λo15=>?_;refine fr 1 ?_;refine aS rfl rfl (aN rfl fq o15 rfl rfl) ⟨rfl,rfl,trivial⟩ ?_;refine aG (aI (tn (ae (mq ?_))));obtain⟨x,j,h⟩:=aa h;refine jb (bh rfl j) ?_;refine aq (nl ?_);exact jz (D,(y9.1++[e],x)) h [0,1,2,3]
  .refine xa ?_;exact jz (c,y9.1) h [0,1,2,3]
 .
  refine sr (lo cY ?_);refine fr 3 ?_;refine aS rfl rfl (aN rfl cY trivial rfl rfl) ⟨rfl,rfl,trivial⟩ ?_;refine nt (aD (bH 2 rfl ?_));refine bv (iU (off:=4) [] trivial rfl rfl) ?_;refine bv (SE.fin (Γ':=[(2,_)]) [2,0,1] ⟨rfl,trivial⟩ rfl) ?_;cases h;exact aV v5 [.agg (.pair (I a0.1) (.pair (I a0.2.1) (.pair (I a0.2.2.1) (.pair (I a0.2.2.2.1) (.pair (.rep (.slice (.slice Tl)) x7) (.eq v5))))))] 1 ⟨⟨_,_,_,_,_,rfl,(.tail _ (.head _)),cY,(oM),rfl⟩,trivial⟩ rfl
theorem tp(k:Nat)(a0:ab)(r:ab)(h:fh k a0=some r):
 cX Tryz.prog 11 [.rep am a0] [] (λ_:Unit=>(bz [.rep am r],[])):=by
 unfold fh at h
 replace h:=aW h
 refine cX.of 30 Tryz.func11 rfl Tryz.ntmps11 rfl λS w0=>?_
 refine sr ?_
 refine bx λb1=>?_
 refine bf rfl rfl rfl (bA rfl u7 yj) trivial λb2=>?_
 refine nt ?_
 refine sr ?_
 refine fl bW ?_
 refine fr 1 ?_
 refine lo fq ?_
 refine aq ?_
 refine nt ?_
 refine sr ?_
 refine bf rfl rfl rfl (ge (t:=aL) [] ([]:(List aQ)) rfl rfl xR .nil rfl rfl) trivial λv3=>?_
 refine fl fH ?_
 refine fr 1 ?_
 refine lo nh ?_
 obtain⟨u4,E,h⟩:=aa h
 refine fr 1 ?_
 refine cz rfl rfl rfl (bi rfl rfl xR (ap E)) ⟨rfl,rfl,trivial⟩ λv5=>?_
 refine fl bW ?_
 refine fr 1 ?_
 refine aS rfl rfl (aN rfl fq rfl rfl rfl) ⟨rfl,rfl,trivial⟩ ?_
 refine fl fH ?_
 refine fr 1 ?_
 refine m9 λo6=>?_
 refine fr 1 ?_
 refine aS rfl rfl (aN rfl nh o6 rfl rfl) ⟨rfl,rfl,trivial⟩ ?_
 refine nt ?_
 refine aC (Z:=Value) (α:=(List (List (List Int)))) (λz8 x7=>[(1,Pt b1),(2,Pt b2)]) (λz8 x7=>[.obj b1 25 (.agg (.pair (I a0.1) (.pair (I a0.2.1) (.pair (I a0.2.2.1) (.pair (I a0.2.2.2.1) (.pair (.eq z8) (.eq v5))))))),.sl z8 36 (.slice Tl) x7,.sl v5 27 aL (([]:(List aQ))++a0.2.2.2.2.2),.obj b2 25 (.agg (.pair (I 0) (.pair (I 0) (.pair (I 0) (.pair (I 0) (.pair (.eq (.slice none 0 0)) (.eq (.slice none 0 0))))))))]) h (λK h=>?_) (λz8 x7 h=>?_)
 .
  refine sr (cq (nt (ah ?_)));refine gi (SE.nil 36 (.slice Tl)) ?_;refine dU 1 rfl ?_;refine gi (ie (a:=.agg (.pair (.rep Ti a0.1) (.pair (.rep Ti a0.2.1) (.pair (.rep Ti a0.2.2.1) (.pair (.rep Ti a0.2.2.2.1) (.pair (.eq (.slice none 0 0)) (.eq v5))))))) (a':=.agg (.pair (I a0.1) (.pair (I a0.2.1) (.pair (I a0.2.2.1) (.pair (I a0.2.2.2.1) (.pair (.eq (.slice none 0 0)) (.eq v5))))))) (AE.agg (AE.pair AE.int (AE.pair AE.int (AE.pair AE.int (AE.pair AE.int AE.rfl)))))) ?_;refine aE (λc y9=>[(1,Pt b1),(2,Pt b2),(3,.rep (.slice (.slice Tl)) a0.2.2.2.2.1),(4,I y9.2)]) (λc y9=>[.obj b1 25 (.agg (.pair (I a0.1) (.pair (I a0.2.1) (.pair (I a0.2.2.1) (.pair (I a0.2.2.2.1) (.pair (.eq c) (.eq v5))))))),.sl c 36 (.slice Tl) y9.1,.sl v5 27 aL (([]:(List aQ))++a0.2.2.2.2.2),.obj b2 25 (.agg (.pair (I 0) (.pair (I 0) (.pair (I 0) (.pair (I 0) (.pair (.eq (.slice none 0 0)) (.eq (.slice none 0 0))))))))]) (dj k a0) k (.slice none 0 0) (([]:(List (List (List Int)))),0) (λ_=>rfl) h (SE.fin [0,1,2,3] ⟨rfl,rfl,rfl,rfl,trivial⟩ rfl) (λn c y9 h=>?_);unfold dj at h;refine ai (sr ?_);iterate 2 refine mq ?_
  refine ol pq ?_;refine jb (bj rfl) ?_;refine nt (ci h (λh=>?_) (λh=>?_))
  .refine sk (ai (ah (bu ?_)));refine da (av rfl bW) ?_;refine ea 0 (ao rfl fq jQ rfl) ?_;refine dm ?_;refine dm ?_;obtain⟨y,l,h⟩:=aa h;refine db (ay (t:=(.slice Tl)) rfl pq kB l) ?_;refine da (ak (t:=(.slice Tl)) rfl kB rfl) ?_;obtain⟨e,u,h⟩:=aa h;refine da (tG (au [.tmp 24] rfl rfl Ro rfl (kL k y e u))) ?_;refine da (aR (t:=(.slice Tl)) [(.tmp 25,_)] [e] rfl rfl vW (.cons rfl .rep .nil) rfl rfl) ?_;refine df bY ?_;obtain⟨F,s,h⟩:=aa h;refine fr 1 ?_;refine cz rfl rfl rfl (bi rfl rfl vW (ap s)) ⟨rfl,rfl,trivial⟩ λD=>?_;refine fl bW ?_;refine m9 λo15=>?_;refine fr 1 ?_;refine aS rfl rfl (aN rfl fq o15 rfl rfl) ⟨rfl,rfl,trivial⟩ ?_;refine aG (aI (tn (ae (mq ?_))));obtain⟨x,j,h⟩:=aa h;refine jb (bh rfl j) ?_;refine aq (nl ?_);exact jz (D,(y9.1++[e],x)) h [0,1,2,3]
  .refine xa ?_;exact jz (c,y9.1) h [0,1,2,3]
 .
  refine sr (fr 1 ?_);refine eQ (iU (off:=4) [] trivial rfl rfl) ?_;refine fr 1 ?_;refine eQ (iU (off:=5) [] trivial rfl rfl) ?_;refine lo cY ?_;refine fr 1 ?_;refine aS rfl rfl (aN rfl cY trivial rfl rfl) ⟨rfl,rfl,trivial⟩ ?_;refine nt (aD (bv (ie (a:=.agg (.pair (I a0.1) (.pair (I a0.2.1) (.pair (I a0.2.2.1) (.pair (I a0.2.2.2.1) (.pair (.rep (.slice (.slice Tl)) x7) (Rs aL (([]:(List aQ))++a0.2.2.2.2.2)))))))) (a':=.rep am (a0.1,a0.2.1,a0.2.2.1,a0.2.2.2.1,x7,([]:(List aQ))++a0.2.2.2.2.2)) (kA (.agg (.pair .int (.pair .int (.pair .int (.pair .int (.pair .rep .rep)))))))) ?_));cases h;exact aV () [.rep am (a0.1,a0.2.1,a0.2.2.1,a0.2.2.2.1,x7,([]:(List aQ))++a0.2.2.2.2.2)] 0 ⟨⟨_,_,_,_,_,rfl,(.head _),cY,(oM),rfl⟩,trivial⟩ rfl
def jp(k:Nat)(a0:bL):Option (Int×bL):=
 ((if a0.2.1 < (a0.1.length:Int) then((aH a0.1 a0.2.1).bind λx3=>
 some (IntKind.u64.wrap ((IntKind.u64.wrap ((IntKind.u64.wrap (a0.2.2 * 6364136223846793005))+1442695040888963407))+(IntKind.u64.wrap ((IntKind.u64.wrap x3) * 2862933555777941757))))) else(some (IntKind.u64.wrap ((IntKind.u64.wrap (a0.2.2 * 6364136223846793005))+1442695040888963407)))):Option (Int)).bind λx1=>
 (ck (a0.2.1+1)).bind λx4=>
 some (jt .u64 (uu .u64 (IntKind.u64.wrap ((uu .u64 x1 (jt .u64 x1 29)) * 2685821657736338717)) (jt .u64 (IntKind.u64.wrap ((uu .u64 x1 (jt .u64 x1 29)) * 2685821657736338717)) 32)) 8,(a0.1,x4,x1))
theorem um(k:Nat)(a0:bL)(c:Nat)(r:Int×bL)(h:jp k a0=some r):
 cX Tryz.prog 29 [Pt c] [.obj c 61 (.agg (.pair (.rep Tl a0.1) (.pair (I a0.2.1) (.eq (.int .u64 a0.2.2)))))] (λ_:Unit=>(bz [.eq (.int .u64 r.1)],[.obj c 61 (.agg (.pair (.rep Tl r.2.1) (.pair (I r.2.2.1) (.eq (.int .u64 r.2.2.2)))))])):=by
 unfold jp at h
 replace h:=aW h
 refine cX.of 67 Tryz.func29 rfl Tryz.ntmps29 rfl λS w0=>?_
 refine sr ?_
 refine cq ?_
 refine nt ?_
 refine sr ?_
 iterate 2 refine mq ?_
 refine ja (cZ rfl) ?_
 refine fl uy ?_
 refine lo G4 ?_
 refine jb (Ek rfl) ?_
 refine jb (JB rfl) ?_
 refine ja (cZ rfl) ?_
 refine fl uy ?_
 refine aS rfl rfl (aN rfl G4 rfl rfl rfl) ⟨rfl,rfl,trivial⟩ ?_
 refine nt ?_
 refine aC (Z:=Unit) (α:=Int) (λz2 x1=>[(0,Pt c)]) (λz2 x1=>[.obj c 61 (.agg (.pair (.rep Tl a0.1) (.pair (I a0.2.1) (.eq (.int .u64 x1)))))]) h (λK h=>?_) (λz2 x1 h=>?_)
 .
  refine ai (bu ?_);refine dm ?_;refine da (cZ rfl) ?_;refine da (av rfl Aj) ?_;refine ea 0 (ao rfl bJ jQ rfl) ?_;refine dm ?_;refine da (cZ rfl) ?_;refine da (av rfl KG) ?_;refine ea 0 (ao rfl ew jQ rfl) ?_;refine da (o8 rfl rfl fD) ?_;refine df bY ?_;refine jb (bj rfl) ?_;refine nt (ci h (λh=>?_) (λh=>?_))
  .refine bu ?_;refine dm ?_;refine dm ?_;refine da (cZ rfl) ?_;refine da (av rfl uy) ?_;refine ea 0 (ao rfl G4 jQ rfl) ?_;refine dm ?_;refine da (cZ rfl) ?_;refine da (av rfl KG) ?_;refine ea 0 (ao rfl ew jQ rfl) ?_;refine dm ?_;refine da (cZ rfl) ?_;refine da (av rfl Aj) ?_;refine ea 0 (ao rfl bJ jQ rfl) ?_;obtain⟨x3,j,h⟩:=aa h;refine db (ay (t:=Ti) rfl fD bJ j) ?_;refine da (ak (t:=Ti) rfl bJ rfl) ?_;refine da (t8 rfl U3 Vi) ?_;refine db (Ek rfl) ?_;refine db (JB rfl) ?_;refine df bY ?_;refine ja (cZ rfl) ?_;refine fl uy ?_;refine aS rfl rfl (aN rfl G4 rfl rfl rfl) ⟨rfl,rfl,trivial⟩ ?_;refine nl ?_;exact jz ((),IntKind.u64.wrap ((IntKind.u64.wrap ((IntKind.u64.wrap (a0.2.2 * 6364136223846793005))+1442695040888963407))+(IntKind.u64.wrap ((IntKind.u64.wrap x3) * 2862933555777941757)))) h [0]
  .refine ba (ax ?_);exact jz ((),IntKind.u64.wrap ((IntKind.u64.wrap (a0.2.2 * 6364136223846793005))+1442695040888963407)) h [0]
 .
  refine sr (mq ?_);refine ja (cZ rfl) ?_;refine fl Aj ?_;refine lo bJ ?_;obtain⟨x4,e,h⟩:=aa h;refine jb (bh rfl e) ?_;refine ja (cZ rfl) ?_;refine fl Aj ?_;refine aS rfl rfl (aN rfl bJ rfl rfl rfl) ⟨rfl,rfl,trivial⟩ ?_;refine nt (ai (bu ?_));refine dm ?_;refine da (cZ rfl) ?_;refine da (av rfl uy) ?_;refine ea 0 (ao rfl G4 jQ rfl) ?_;refine dm ?_;refine da (cZ rfl) ?_;refine da (av rfl uy) ?_;refine ea 0 (ao rfl G4 jQ rfl) ?_;refine gI rfl rfl rfl (wx rfl (by decide)) ⟨rfl,rfl,trivial⟩ ?_;refine df bY ?_;refine jb (PL rfl) ?_;refine aq (nt (sr ?_));refine mq ?_;refine jb (Ek rfl) ?_;refine aq (nt (sr ?_));iterate 2 refine mq ?_
  refine cF rfl (wx rfl (by decide)) ⟨rfl,rfl,trivial⟩ ?_;refine jb (PL rfl) ?_;refine cF rfl (wx rfl (by decide)) ⟨rfl,rfl,trivial⟩ ?_;refine aq (nt (aD ?_));cases h;exact aV () [_] 1 ⟨rfl,trivial⟩ rfl
def cD(k:Nat)(a0:bL)(a1:Int):Option (Int×bL):=
 if a1 < 1 then(some (0,(a0.1,a0.2.1,a0.2.2))) else((jp k (a0.1,a0.2.1,a0.2.2)).bind λr1=>
 (ck (a1+1)).bind λx2=>
 (bV ((IntKind.u64.wrap x2)≠0)).bind λ_=>
 (ck (Int.tmod r1.1 (IntKind.u64.wrap x2))).bind λx4=>
 some (x4,(r1.2.1,r1.2.2.1,r1.2.2.2)))
theorem cI(k:Nat)(a0:bL)(c:Nat)(a1:Int)(r:Int×bL)(h:cD k a0 a1=some r):
 cX Tryz.prog 10 [Pt c,I a1] [.obj c 61 (.agg (.pair (.rep Tl a0.1) (.pair (I a0.2.1) (.eq (.int .u64 a0.2.2)))))] (λ_:Unit=>(bz [I r.1],[.obj c 61 (.agg (.pair (.rep Tl r.2.1) (.pair (I r.2.2.1) (.eq (.int .u64 r.2.2.2)))))])):=by
 unfold cD at h
 replace h:=aW h
 refine cX.of 14 Tryz.func10 rfl Tryz.ntmps10 rfl λS w0=>?_
 refine sr ?_
 refine cq ?_
 refine nt ?_
 refine ai ?_
 refine sr ?_
 refine mq ?_
 refine jb (bj rfl) ?_
 refine nt ?_
 refine ci h (λh=>?_) (λh=>?_)
 .
  refine sr (cq (nt (rx ?_)));cases h;exact aV () [_] 1 ⟨rfl,trivial⟩ rfl
 .
  refine sk (sr (mq ?_));obtain⟨r1,n,h⟩:=aa h;refine ka (au [.tmp 7] rfl rfl WA rfl (um k (a0.1,a0.2.1,a0.2.2) c r1 n)) ?_;refine mq ?_;obtain⟨x2,j,h⟩:=aa h;refine jb (bh rfl j) ?_;refine ja (t8 rfl U3 Vi) ?_;obtain⟨u3,l,h⟩:=aa h;refine jb (TA rfl (ap l)) ?_;obtain⟨x4,e,h⟩:=aa h;refine ja (BL rfl Vi U3 e) ?_;refine aq (nt (aD ?_));cases h;exact aV () [_] 1 ⟨rfl,trivial⟩ rfl
def fg(k:Nat)(a0:bL)(a1:Int):Option (Bool×bL):=
 (ck (a1 - 1)).bind λx1=>
 (cD k (a0.1,a0.2.1,a0.2.2) x1).bind λr2=>
 some (decide (r2.1=0),(r2.2.1,r2.2.2.1,r2.2.2.2))
theorem i7(k:Nat)(a0:bL)(c:Nat)(a1:Int)(r:Bool×bL)(h:fg k a0 a1=some r):
 cX Tryz.prog 28 [Pt c,I a1] [.obj c 61 (.agg (.pair (.rep Tl a0.1) (.pair (I a0.2.1) (.eq (.int .u64 a0.2.2)))))] (λ_:Unit=>(bz [.eq (.bool r.1)],[.obj c 61 (.agg (.pair (.rep Tl r.2.1) (.pair (I r.2.2.1) (.eq (.int .u64 r.2.2.2)))))])):=by
 unfold fg at h
 replace h:=aW h
 refine cX.of 10 Tryz.func28 rfl Tryz.ntmps28 rfl λS w0=>?_
 refine sr ?_
 refine cq ?_
 refine nt ?_
 refine sr ?_
 iterate 2 refine mq ?_
 obtain⟨x1,e,h⟩:=aa h
 refine jb (dR rfl e) ?_
 obtain⟨r2,j,h⟩:=aa h
 have l:=cI k (a0.1,a0.2.1,a0.2.2) c x1 r2 j
 refine kb (au [.tmp 5,.tmp 7] rfl rfl wU rfl l) ?_
 refine jb (jO rfl) ?_
 refine aq ?_
 refine nt ?_
 refine aD ?_
 cases h
 exact aV () [_] 1 ⟨rfl,trivial⟩ rfl
def gX(k:Nat)(a0:bL)(a1:Int)(a2:Int):Option (Int×bL):=
 (ck (a2 - a1)).bind λx1=>
 (cD k (a0.1,a0.2.1,a0.2.2) x1).bind λr2=>
 (ck (a1+r2.1)).bind λx3=>
 some (x3,(r2.2.1,r2.2.2.1,r2.2.2.2))
theorem ku(k:Nat)(a0:bL)(c:Nat)(a1:Int)(a2:Int)(r:Int×bL)(h:gX k a0 a1 a2=some r):
 cX Tryz.prog 86 [Pt c,I a1,I a2] [.obj c 61 (.agg (.pair (.rep Tl a0.1) (.pair (I a0.2.1) (.eq (.int .u64 a0.2.2)))))] (λ_:Unit=>(bz [I r.1],[.obj c 61 (.agg (.pair (.rep Tl r.2.1) (.pair (I r.2.2.1) (.eq (.int .u64 r.2.2.2)))))])):=by
 unfold gX at h
 replace h:=aW h
 refine cX.of 14 Tryz.func86 rfl Tryz.ntmps86 rfl λS w0=>?_
 refine sr ?_
 refine cq ?_
 refine nt ?_
 refine sr ?_
 iterate 4 refine mq ?_
 obtain⟨x1,j,h⟩:=aa h
 refine jb (dR rfl j) ?_
 obtain⟨r2,l,h⟩:=aa h
 have n:=cI k (a0.1,a0.2.1,a0.2.2) c x1 r2 l
 refine kb (au [.tmp 8,.tmp 11] rfl rfl wU rfl n) ?_
 obtain⟨x3,e,h⟩:=aa h
 refine jb (bh rfl e) ?_
 refine aq ?_
 refine nt ?_
 refine aD ?_
 cases h
 exact aV () [_] 1 ⟨rfl,trivial⟩ rfl
def iS(k:Nat)(a0:bL)(a1:(List Int)):Option (Int×bL):=
 (ck ((a1.length:Int) - 1)).bind λx1=>
 (cD k (a0.1,a0.2.1,a0.2.2) x1).bind λr2=>
 (aH a1 r2.1).bind λx3=>
 some (x3,(r2.2.1,r2.2.2.1,r2.2.2.2))
theorem mR(k:Nat)(a0:bL)(c:Nat)(a1:(List Int))(r:Int×bL)(h:iS k a0 a1=some r):
 cX Tryz.prog 87 [Pt c,.rep Tl a1] [.obj c 61 (.agg (.pair (.rep Tl a0.1) (.pair (I a0.2.1) (.eq (.int .u64 a0.2.2)))))] (λ_:Unit=>(bz [I r.1],[.obj c 61 (.agg (.pair (.rep Tl r.2.1) (.pair (I r.2.2.1) (.eq (.int .u64 r.2.2.2)))))])):=by
 unfold iS at h
 replace h:=aW h
 refine cX.of 13 Tryz.func87 rfl Tryz.ntmps87 rfl λS w0=>?_
 refine sr ?_
 refine cq ?_
 refine nt ?_
 refine sr ?_
 iterate 3 refine mq ?_
 refine ol fD ?_
 obtain⟨x1,j,h⟩:=aa h
 refine jb (dR rfl j) ?_
 obtain⟨r2,l,h⟩:=aa h
 have n:=cI k (a0.1,a0.2.1,a0.2.2) c x1 r2 l
 refine kb (au [.tmp 6,.tmp 9] rfl rfl wU rfl n) ?_
 obtain⟨x3,e,h⟩:=aa h
 refine jb (ay (t:=Ti) rfl fD bJ e) ?_
 refine ja (ak (t:=Ti) rfl bJ rfl) ?_
 refine aq ?_
 refine nt ?_
 refine aD ?_
 cases h
 exact aV () [_] 1 ⟨rfl,trivial⟩ rfl
def eT(k:Nat)(a1:Int):Nat->((List Int)×Int×Int×(List Int)×Int)->Option ((List Int)×(List Int)×Int×Int)
 |0,_=>none
 |n+1,y3=>
  if y3.2.2.2.2 < a1 then((cD k (y3.1,y3.2.1,y3.2.2.1) y3.2.2.2.2).bind λr5=>
  (bV (bb (length y3.2.2.2.1+length [y3.2.2.2.2]))).bind λ_=>
  (aH (y3.2.2.2.1++[y3.2.2.2.2]) r5.1).bind λx8=>
  (aH (y3.2.2.2.1++[y3.2.2.2.2]) y3.2.2.2.2).bind λx9=>
  (aH (List.set (y3.2.2.2.1++[y3.2.2.2.2]) (Int.toNat y3.2.2.2.2) x8) r5.1).bind λe=>
  (ck (y3.2.2.2.2+1)).bind λc=>
  eT k a1 n (r5.2.1,r5.2.2.1,r5.2.2.2,List.set (List.set (y3.2.2.2.1++[y3.2.2.2.2]) (Int.toNat y3.2.2.2.2) x8) (Int.toNat r5.1) y3.2.2.2.2,c)) else(some (y3.2.2.2.1,y3.1,y3.2.1,y3.2.2.1))
def iT(k:Nat)(a0:bL)(a1:Int):Option ((List Int)×bL):=
 ((eT k a1 k (a0.1,a0.2.1,a0.2.2,([]:(List Int)),0)):Option ((List Int)×(List Int)×Int×Int)).bind λx1=>
 some (x1.1,(x1.2.1,x1.2.2.1,x1.2.2.2))
theorem tl(k:Nat)(a0:bL)(c:Nat)(a1:Int)(r:(List Int)×bL)(h:iT k a0 a1=some r):
 cX Tryz.prog 104 [Pt c,I a1] [.obj c 61 (.agg (.pair (.rep Tl a0.1) (.pair (I a0.2.1) (.eq (.int .u64 a0.2.2)))))] (λ_:Unit=>(bz [.rep Tl r.1],[.obj c 61 (.agg (.pair (.rep Tl r.2.1) (.pair (I r.2.2.1) (.eq (.int .u64 r.2.2.2)))))])):=by
 unfold iT at h
 replace h:=aW h
 refine cX.of 32 Tryz.func104 rfl Tryz.ntmps104 rfl λS w0=>?_
 refine sr ?_
 refine cq ?_
 refine nt ?_
 refine sr ?_
 refine cq ?_
 refine nt ?_
 refine aC (Z:=Value) (α:=(List Int)×(List Int)×Int×Int) (λz2 x1=>[(5,.eq z2)]) (λz2 x1=>[.sl z2 3 Ti x1.1,.obj c 61 (.agg (.pair (.rep Tl x1.2.1) (.pair (I x1.2.2.1) (.eq (.int .u64 x1.2.2.2)))))]) h (λK h=>?_) (λz2 x1 h=>?_)
 .
  refine sr (cq (nt (ah ?_)));refine gi (SE.nil 3 Ti) ?_;refine aE (λz4 y3=>[(0,Pt c),(1,I a1),(5,.eq z4),(6,I y3.2.2.2.2)]) (λz4 y3=>[.obj c 61 (.agg (.pair (.rep Tl y3.1) (.pair (I y3.2.1) (.eq (.int .u64 y3.2.2.1))))),.sl z4 3 Ti y3.2.2.2.1]) (eT k a1) k (.slice none 0 0) (a0.1,a0.2.1,a0.2.2,([]:(List Int)),0) (λ_=>rfl) h (SE.fin [1,0] ⟨rfl,rfl,rfl,rfl,trivial⟩ rfl) (λn z4 y3 h=>?_);unfold eT at h;refine ai (sr ?_);iterate 2 refine mq ?_
  refine jb (bj rfl) ?_;refine nt (ci h (λh=>?_) (λh=>?_))
  .refine sk (ai (ah (sr ?_)));iterate 2 refine mq ?_
   obtain⟨r5,y,h⟩:=aa h;refine kb (au [.tmp 13,.tmp 14] rfl rfl wU rfl (cI k (y3.1,y3.2.1,y3.2.2.1) c y3.2.2.2.2 r5 y)) ?_;refine aq (nt (sr ?_));iterate 2 refine mq ?_
   refine ja (aR (t:=Ti) [(.tmp 17,_)] [y3.2.2.2.2] rfl rfl cH (.cons rfl .int .nil) rfl rfl) ?_;obtain⟨u6,x,h⟩:=aa h;refine fr 1 ?_;refine cz rfl rfl rfl (bi rfl rfl cH (ap x)) ⟨rfl,rfl,trivial⟩ λv7=>?_;refine aq (nt (ae ?_));iterate 6 refine mq ?_
   obtain⟨x8,l,h⟩:=aa h;refine kb (cP (t:=Ti) rfl fD bJ l) ?_;refine ka (iv (i:=Int.toNat r5.1) (off:=0) rfl bJ (λ_=>rfl) rfl (dV l).2.2 rfl) ?_;refine mq ?_;obtain⟨x9,j,h⟩:=aa h;refine kb (cP (t:=Ti) rfl fD bJ j) ?_;refine aS rfl rfl (iK (i:=Int.toNat y3.2.2.2.2) rfl bJ rfl (oR j) rfl .int rfl) ⟨rfl,rfl,trivial⟩ ?_;obtain⟨D,e,h⟩:=aa h;refine kb (cP (t:=Ti) rfl fD bJ e) ?_;refine aS rfl rfl (iK (i:=Int.toNat r5.1) rfl bJ rfl (oR e) rfl .int rfl) ⟨rfl,rfl,trivial⟩ ?_;refine aG (aI (tn (ae (mq ?_))));obtain⟨u,s,h⟩:=aa h;refine jb (bh rfl s) ?_;refine aq (nl ?_);exact jz (v7,(r5.2.1,r5.2.2.1,r5.2.2.2,List.set (List.set (y3.2.2.2.1++[y3.2.2.2.2]) (Int.toNat y3.2.2.2.2) x8) (Int.toNat r5.1) y3.2.2.2.2,u)) h [1,0]
  .refine xa ?_;exact jz (z4,(y3.2.2.2.1,y3.1,y3.2.1,y3.2.2.1)) h [1,0]
 .
  refine sr (mq ?_);refine aq (nt (aD ?_));refine bv (fy [4,5,31] ⟨rfl,rfl,rfl,trivial⟩) ?_;cases h;exact aV () [_] 1 ⟨rfl,trivial⟩ rfl
def jr(k:Nat)(a0:bL)(a1:Aq):Option (aQ×bL):=
 (ck (a1.1 - 1)).bind λx3=>
 (cD k (a0.1,a0.2.1,a0.2.2) x3).bind λr4=>
 (cD k (r4.2.1,r4.2.2.1,r4.2.2.2) (a1.2.2.2.2.1.length:Int)).bind λr5=>
 (fg k (r5.2.1,r5.2.2.1,r5.2.2.2) 2).bind λr6=>
 some ((r4.1,r5.1,r6.1),(r6.2.1,r6.2.2.1,r6.2.2.2))
theorem uq(k:Nat)(a0:bL)(c:Nat)(a1:Aq)(r:aQ×bL)(h:jr k a0 a1=some r):
 cX Tryz.prog 65 [Pt c,.rep Fh a1] [.obj c 61 (.agg (.pair (.rep Tl a0.1) (.pair (I a0.2.1) (.eq (.int .u64 a0.2.2)))))] (λ_:Unit=>(bz [.rep aL r.1],[.obj c 61 (.agg (.pair (.rep Tl r.2.1) (.pair (I r.2.2.1) (.eq (.int .u64 r.2.2.2)))))])):=by
 unfold jr at h
 replace h:=aW h
 refine cX.of 18 Tryz.func65 rfl Tryz.ntmps65 rfl λS w0=>?_
 refine sr ?_
 refine bx λb1=>?_
 refine bf rfl rfl rfl (bA rfl GX OM) trivial λb2=>?_
 refine nt ?_
 refine ai ?_
 refine Ib [1,2,3,5,6,7,8,10,0,4,9,11,12,13] (by kernel_rfl) ?_
 refine bG rfl rfl rfl (av rfl fx) ⟨rfl,trivial⟩ ?_
 refine ji 1 rfl rfl rfl rfl (ao rfl bJ jQ rfl) ⟨rfl,trivial⟩ ?_
 obtain⟨x3,E,h⟩:=aa h
 refine bG rfl rfl rfl (dR rfl E) ⟨rfl,rfl,trivial⟩ ?_
 refine bG rfl rfl rfl (aK rfl) ⟨rfl,trivial⟩ ?_
 refine bG rfl rfl rfl (av rfl bW) ⟨rfl,trivial⟩ ?_
 refine ji 1 rfl rfl rfl rfl (ao rfl fq jQ rfl) ⟨rfl,trivial⟩ ?_
 refine bG rfl rfl rfl (o8 rfl rfl pq) ⟨rfl,trivial⟩ ?_
 refine bG rfl rfl rfl (aK rfl) ⟨rfl,trivial⟩ ?_
 refine bG rfl rfl rfl (aK rfl) ⟨rfl,trivial⟩ ?_
 refine uQ 9 [true,true,true,false,false,false,false,false,true] [9,14] [1] [.obj b1 25 (.rep Fh a1)] rfl (by kernel_rfl) (by kernel_rfl) (by kernel_rfl) bY (λvs hv hB=>?_)
 obtain⟨w0,Xw,rfl,D⟩:=aF hv
 obtain⟨w1,Xv,rfl,y⟩:=aF D
 obtain⟨w2,zz,rfl,x⟩:=aF y
 obtain⟨w3,qt,rfl,u⟩:=aF x
 obtain⟨w4,mw,rfl,s⟩:=aF u
 obtain⟨w5,mc,rfl,n⟩:=aF s
 obtain⟨w6,Z,rfl,l⟩:=aF n
 obtain⟨w7,Y,rfl,j⟩:=aF l
 obtain⟨w8,X,rfl,e⟩:=aF j
 obtain rfl:=qK e
 refine⟨[1,0,2],[.obj b2 27 (.agg (.pair (I 0) (.pair (I 0) (.eq (.bool false))))),.obj c 61 (.agg (.pair (.rep Tl a0.1) (.pair (I a0.2.1) (.eq (.int .u64 a0.2.2)))))],by kernel_rfl,by decide,?_⟩
 obtain⟨r4,M,h⟩:=aa h
 have U:=cI k (a0.1,a0.2.1,a0.2.2) c x3 r4 M
 refine tI 1 rfl ?_
 refine xt rfl rfl rfl rfl (au [.tmp 5,.tmp 8] rfl rfl wU rfl U) ⟨rfl,rfl,trivial⟩ (by kernel_rfl) ?_
 obtain⟨r5,J,h⟩:=aa h
 have Q:=cI k (r4.2.1,r4.2.2.1,r4.2.2.2) c (a1.2.2.2.2.1.length:Int) r5 J
 refine xt rfl rfl rfl rfl (au [.tmp 10,.tmp 13] rfl rfl wU rfl Q) ⟨rfl,rfl,trivial⟩ (by kernel_rfl) ?_
 refine RV (by kernel_rfl) ?_
 obtain⟨r6,F,h⟩:=aa h
 have O:=i7 k (r5.2.1,r5.2.2.1,r5.2.2.2) c 2 r6 F
 refine fr 1 ?_
 refine kb (au [.tmp 15,.const (.int .i64 (2))] rfl rfl Oi rfl O) ?_
 refine jc (eX [(0,.tmp 9,_),(1,.tmp 14,_),(2,.tmp 16,_)] rfl Tn GX PY (kZ ⟨rfl,rfl,rfl,trivial⟩) rfl) ?_
 refine fr 2 ?_
 refine aS rfl rfl (aN rfl nN trivial rfl rfl) ⟨rfl,rfl,trivial⟩ ?_
 refine nt ?_
 refine aD ?_
 refine bv (ie (a:=.agg (.pair (I r4.1) (.pair (I r5.1) (.eq (.bool r6.1))))) (a':=.rep aL (r4.1,r5.1,r6.1)) (kA (.agg (.pair .int (.pair .int .bool))))) ?_
 refine bv (SE.fin (Γ':=[(4,_)]) [1,0,2] ⟨rfl,trivial⟩ rfl) ?_
 cases h
 exact aV () [.rep aL (r4.1,r5.1,r6.1)] 1 ⟨⟨_,_,_,_,_,rfl,(.tail _ (.head _)),nN,(oM),rfl⟩,trivial⟩ rfl
def gA(k:Nat)(a1:Int):Nat->((List Int)×Int×Int×(List Int)×Int)->Option ((List Int)×(List Int)×Int×Int)
 |0,_=>none
 |n+1,y3=>
  if y3.2.2.2.2 < a1 then((((fg k (y3.1,y3.2.1,y3.2.2.1) 3).bind λr7=>
  if r7.1=true then((bV (bb (length y3.2.2.2.1+length [y3.2.2.2.2]))).bind λ_=>
  some (r7.2.1,r7.2.2.1,r7.2.2.2,y3.2.2.2.1++[y3.2.2.2.2])) else(some (r7.2.1,r7.2.2.1,r7.2.2.2,y3.2.2.2.1))):Option ((List Int)×Int×Int×(List Int))).bind λx5=>
  (ck (y3.2.2.2.2+1)).bind λc=>
  gA k a1 n (x5.1,x5.2.1,x5.2.2.1,x5.2.2.2,c)) else(some (y3.2.2.2.1,y3.1,y3.2.1,y3.2.2.1))
def lu(k:Nat)(a0:bL)(a1:Int):Option ((List Int)×bL):=
 ((gA k a1 k (a0.1,a0.2.1,a0.2.2,([]:(List Int)),0)):Option ((List Int)×(List Int)×Int×Int)).bind λx1=>
 some (x1.1,(x1.2.1,x1.2.2.1,x1.2.2.2))
theorem wM(k:Nat)(a0:bL)(c:Nat)(a1:Int)(r:(List Int)×bL)(h:lu k a0 a1=some r):
 cX Tryz.prog 9 [Pt c,I a1] [.obj c 61 (.agg (.pair (.rep Tl a0.1) (.pair (I a0.2.1) (.eq (.int .u64 a0.2.2)))))] (λ_:Unit=>(bz [.rep Tl r.1],[.obj c 61 (.agg (.pair (.rep Tl r.2.1) (.pair (I r.2.2.1) (.eq (.int .u64 r.2.2.2)))))])):=by
 unfold lu at h
 replace h:=aW h
 refine cX.of 19 Tryz.func9 rfl Tryz.ntmps9 rfl λS w0=>?_
 refine sr ?_
 refine cq ?_
 refine nt ?_
 refine sr ?_
 refine cq ?_
 refine nt ?_
 refine aC (Z:=Value) (α:=(List Int)×(List Int)×Int×Int) (λz2 x1=>[(5,.eq z2)]) (λz2 x1=>[.sl z2 3 Ti x1.1,.obj c 61 (.agg (.pair (.rep Tl x1.2.1) (.pair (I x1.2.2.1) (.eq (.int .u64 x1.2.2.2)))))]) h (λK h=>?_) (λz2 x1 h=>?_)
 .
  refine sr (cq (nt (ah ?_)));refine gi (SE.nil 3 Ti) ?_;refine aE (λz4 y3=>[(0,Pt c),(1,I a1),(5,.eq z4),(6,I y3.2.2.2.2)]) (λz4 y3=>[.obj c 61 (.agg (.pair (.rep Tl y3.1) (.pair (I y3.2.1) (.eq (.int .u64 y3.2.2.1))))),.sl z4 3 Ti y3.2.2.2.1]) (gA k a1) k (.slice none 0 0) (a0.1,a0.2.1,a0.2.2,([]:(List Int)),0) (λ_=>rfl) h (SE.fin [1,0] ⟨rfl,rfl,rfl,rfl,trivial⟩ rfl) (λn z4 y3 h=>?_);unfold gA at h;refine ai (sr ?_);iterate 2 refine mq ?_
  refine jb (bj rfl) ?_;refine nt (ci h (λh=>?_) (λh=>?_))
  .refine sk (aC (Z:=Value) (α:=(List Int)×Int×Int×(List Int)) (λz6 x5=>[(0,Pt c),(1,I a1),(5,.eq z6),(6,I y3.2.2.2.2)]) (λz6 x5=>[.obj c 61 (.agg (.pair (.rep Tl x5.1) (.pair (I x5.2.1) (.eq (.int .u64 x5.2.2.1))))),.sl z6 3 Ti x5.2.2.2]) h (λK h=>?_) (λz6 x5 h=>?_))
   .refine ah (sr (mq ?_));obtain⟨r7,s,h⟩:=aa h;refine kb (au [.tmp 12,.const (.int .i64 (3))] rfl rfl Oi rfl (i7 k (y3.1,y3.2.1,y3.2.2.1) c 3 r7 s)) ?_;refine nt (cv h (λh=>?_) (λh=>?_))
    .refine ae ?_;iterate 2 refine mq ?_
     refine ja (aR (t:=Ti) [(.tmp 15,_)] [y3.2.2.2.2] rfl rfl cH (.cons rfl .int .nil) rfl rfl) ?_;obtain⟨u8,l,h⟩:=aa h;refine fr 1 ?_;refine cz rfl rfl rfl (bi rfl rfl cH (ap l)) ⟨rfl,rfl,trivial⟩ λv9=>?_;refine aq (aG (bn ?_));exact jz (v9,(r7.2.1,r7.2.2.1,r7.2.2.2,y3.2.2.2.1++[y3.2.2.2.2])) h [1,0]
    .refine ba (bn ?_);exact jz (z4,(r7.2.1,r7.2.2.1,r7.2.2.2,y3.2.2.2.1)) h [0,1]
   .refine ae (mq ?_);obtain⟨j,e,h⟩:=aa h;refine jb (bh rfl e) ?_;refine aq (nl ?_);exact jz (z6,(x5.1,x5.2.1,x5.2.2.1,x5.2.2.2,j)) h [0,1]
  .refine xa ?_;exact jz (z4,(y3.2.2.2.1,y3.1,y3.2.1,y3.2.2.1)) h [1,0]
 .
  refine sr (mq ?_);refine aq (nt (aD ?_));refine bv (fy [4,5,18] ⟨rfl,rfl,rfl,trivial⟩) ?_;cases h;exact aV () [_] 1 ⟨rfl,trivial⟩ rfl
def gd(k:Nat)(a0:Int)(a1:Int)(a2:Int):Option Bool:=
 ((if a1≤a0 then(some (decide (a0≤a2))) else(some false)):Option (Bool)).bind λx1=>
 some x1
theorem iu(k:Nat)(a0:Int)(a1:Int)(a2:Int)(r:Bool)(h:gd k a0 a1 a2=some r):
 cX Tryz.prog 53 [I a0,I a1,I a2] [] (λ_:Unit=>(bz [.eq (.bool r)],[])):=by
 unfold gd at h
 replace h:=aW h
 refine cX.of 15 Tryz.func53 rfl Tryz.ntmps53 rfl λS w0=>?_
 refine sr ?_
 refine cq ?_
 refine nt ?_
 refine aC (Z:=Unit) (α:=Bool) (λz2 x1=>[(6,.eq (.bool x1))]) (λz2 x1=>[]) h (λK h=>?_) (λz2 x1 h=>?_)
 .
  refine ae ?_;iterate 2 refine mq ?_
  refine jb (gV rfl) ?_;refine mq ?_;refine bU (s:=10) rfl (λhb=>?_) (λhb=>?_)
  .replace h:=dO (uE hb) h;refine gm ?_;refine gm ?_;refine gb (yK rfl) ?_;refine pt ?_;refine aq (nl ?_);exact jz ((),decide (a0≤a2)) h []
  .replace h:=bZ (uF hb) h;iterate 3 refine gn ?_
   refine pf ?_;refine aq (nl ?_);exact jz ((),false) h []
 .
  refine aD ?_;cases h;exact ra
def dz(k:Nat)(a0:ab)(a1:Int):Option Bool:=
 (gd k a1 0 (IntKind.i64.wrap (a0.1 - 1))).bind λr2=>
 some r2
theorem gp(k:Nat)(a0:ab)(a1:Int)(r:Bool)(h:dz k a0 a1=some r):
 cX Tryz.prog 36 [.rep am a0,I a1] [] (λ_:Unit=>(bz [.eq (.bool r)],[])):=by
 unfold dz at h
 replace h:=aW h
 refine cX.of 10 Tryz.func36 rfl Tryz.ntmps36 rfl λS w0=>?_
 refine sr ?_
 refine bx λb1=>?_
 refine cq ?_
 refine nt ?_
 refine sr ?_
 refine mq ?_
 refine fl fx ?_
 refine lo bJ ?_
 refine jb (QM rfl) ?_
 obtain⟨r2,c,h⟩:=aa h
 have e:=iu k a1 0 (IntKind.i64.wrap (a0.1 - 1)) r2 c
 refine jc (au [.tmp 5,.const (.int .i64 (0)),.tmp 8] rfl rfl HD rfl e) ?_
 refine aq ?_
 refine nt ?_
 refine aD ?_
 cases h
 exact ra
def iG(k:Nat)(a0:(List Int))(a1:Int):Nat->Int->Option (Except Bool Unit)
 |0,_=>none
 |n+1,y3=>
  if y3 < (a0.length:Int) then((aH a0 y3).bind λx5=>
  if x5=a1 then(some (.error true)) else((ck (y3+1)).bind λx6=>
  iG k a0 a1 n x6)) else(some (.ok ()))
def ny(k:Nat)(a0:(List Int))(a1:Int):Option Bool:=
 bE (α:=Unit) (iG k a0 a1 k 0) (some) λ_=>
 some false
theorem oI(k:Nat)(a0:(List Int))(a1:Int)(r:Bool)(h:ny k a0 a1=some r):
 cX Tryz.prog 37 [.rep Tl a0,I a1] [] (λ_:Unit=>(bz [.eq (.bool r)],[])):=by
 unfold ny at h
 replace h:=aW h
 refine cX.of 18 Tryz.func37 rfl Tryz.ntmps37 rfl λS w0=>?_
 refine sr ?_
 refine cq ?_
 refine nt ?_
 refine cO (Z:=Unit) (α:=Unit) (λz2 x1=>[]) (λz2 x1=>[]) (λe=>e=r) h (λe h=>Option.some.inj h) (λK hR h=>?_) (λz2 x1 h=>?_)
 .
  refine sr (cq (nt (ah ?_)));refine aE (λz4 y3=>[(0,.rep Tl a0),(1,I a1),(5,I y3)]) (λz4 y3=>[]) (iG k a0 a1) k () 0 (λ_=>rfl) h (SE.fin [] ⟨rfl,rfl,rfl,trivial⟩ rfl) (λn z4 y3 h=>?_);unfold iG at h;refine ai (sr ?_);iterate 2 refine mq ?_
  refine ol fD ?_;refine jb (bj rfl) ?_;refine nt (ci h (λh=>?_) (λh=>?_))
  .refine sk (ai (ah (sr ?_)));iterate 2 refine mq ?_
   obtain⟨x5,j,h⟩:=aa h;refine jb (ay (t:=Ti) rfl fD bJ j) ?_;refine ja (ak (t:=Ti) rfl bJ rfl) ?_;refine mq ?_;refine jb (jO rfl) ?_;refine nt (ci h (λh=>?_) (λh=>?_))
   .refine sr (cq (nt (aD (br (aX (bg ?_))))));obtain rfl:=hR _ h;exact ra
   .refine ba (aI (tn (ae (mq ?_))));obtain⟨x6,c,h⟩:=aa h;refine jb (bh rfl c) ?_;refine aq (nl ?_);exact jz ((),x6) h []
  .refine xa ?_;exact jz ((),()) h []
 .
  refine sr (cq (nt (aD ?_)));cases h;exact ra
def dX(k:Nat)(a0:ab)(a1:(List (List Int)))(y4:(List Int)×Int):Nat->((List Int)×Int)->Option (Except Int (List Int))
 |0,_=>none
 |n+1,y8=>
  (aH a1 y4.2).bind λu=>
  if y8.2 < (u.length:Int) then((aH a1 y4.2).bind λs=>
  (aH s y8.2).bind λr=>
  (dz k a0 r).bind λy=>
  if¬(y=true) then(some (.error 3)) else((aH a1 y4.2).bind λl=>
  (aH l y8.2).bind λj=>
  (ny k y8.1 j).bind λx=>
  if x=true then(some (.error 4)) else((aH a1 y4.2).bind λh=>
  (aH h y8.2).bind λc=>
  (bV (bb (length y8.1+length [c]))).bind λ_=>
  (ck (y8.2+1)).bind λe=>
  dX k a0 a1 y4 n (y8.1++[c],e)))) else(some (.ok y8.1))
def dY(k:Nat)(a0:ab)(a1:(List (List Int))):Nat->((List Int)×Int)->Option (Except Int Unit)
 |0,_=>none
 |n+1,y4=>
  if y4.2 < (a1.length:Int) then(bE (α:=(List Int)) (dX k a0 a1 y4 k (y4.1,0)) (λe=>some (.error e)) λx6=>
  (ck (y4.2+1)).bind λc=>
  dY k a0 a1 n (x6,c)) else(some (.ok ()))
def j8(k:Nat)(a0:ab)(a1:(List (List Int))):Option Int:=
 if 3 < (a1.length:Int) then(some 6) else(bE (α:=Unit) (dY k a0 a1 k (([]:(List Int)),0)) (some) λ_=>
 some 0)
theorem vd(k:Nat)(a0:ab)(a1:(List (List Int)))(r:Int)(h:j8 k a0 a1=some r):
 cX Tryz.prog 74 [.rep am a0,.rep (.slice Tl) a1] [] (λ_:Unit=>(bz [I r],[])):=by
 unfold j8 at h
 replace h:=aW h
 refine cX.of 55 Tryz.func74 rfl Tryz.ntmps74 rfl λS w0=>?_
 refine sr ?_
 refine bx λb1=>?_
 refine cq ?_
 refine nt ?_
 refine ai ?_
 refine sr ?_
 refine mq ?_
 refine ol nk ?_
 refine jb (iM rfl) ?_
 refine nt ?_
 refine ci h (λh=>?_) (λh=>?_)
 .
  refine sr (cq (nt (rx ?_)));cases h;exact ra
 .
  refine sk (sr (cq (nt ?_)));refine cO (Z:=Unit) (α:=Unit) (λz3 x2=>[]) (λz3 x2=>[]) (λe=>e=r) h (λe h=>Option.some.inj h) (λK hR h=>?_) (λz3 x2 h=>?_)
  .refine sr (cq (nt (ah ?_)));refine gi (SE.nil 3 Ti) ?_;refine aE (λz5 y4=>[(1,.rep (.slice Tl) a1),(2,Pt b1),(5,.eq z5),(6,I y4.2)]) (λz5 y4=>[.obj b1 25 (.rep am a0),.sl z5 3 Ti y4.1]) (dY k a0 a1) k (.slice none 0 0) (([]:(List Int)),0) (λ_=>rfl) h (SE.fin [1,0] ⟨rfl,rfl,rfl,rfl,trivial⟩ rfl) (λn z5 y4 h=>?_);unfold dY at h;refine ai (sr ?_);iterate 2 refine mq ?_
   refine ol nk ?_;refine jb (bj rfl) ?_;refine nt (ci h (λh=>?_) (λh=>?_))
   .refine sk (cO (Z:=Value) (α:=(List Int)) (λz7 x6=>[(1,.rep (.slice Tl) a1),(2,Pt b1),(5,.eq z7),(6,I y4.2)]) (λz7 x6=>[.obj b1 25 (.rep am a0),.sl z7 3 Ti x6]) (λe=>e=r) h (λe h=>hR e h) (λK hR h=>?_) (λz7 x6 h=>?_))
    .refine ah (sr (cq (nt (ah ?_))));refine aE (λz9 y8=>[(1,.rep (.slice Tl) a1),(2,Pt b1),(5,.eq z9),(6,I y4.2),(7,I y8.2)]) (λz9 y8=>[.obj b1 25 (.rep am a0),.sl z9 3 Ti y8.1]) (dX k a0 a1 y4) k z5 (y4.1,0) (λ_=>rfl) h (SE.fin [0,1] ⟨rfl,rfl,rfl,rfl,rfl,trivial⟩ rfl) (λn z9 y8 h=>?_);unfold dX at h;refine ai (sr ?_);iterate 3 refine mq ?_
     obtain⟨Xx,J,h⟩:=aa h;refine jb (ay (t:=Tl) rfl nk ew J) ?_;refine ja (ak (t:=Tl) rfl ew rfl) ?_;refine ol fD ?_;refine jb (bj rfl) ?_;refine nt (ci h (λh=>?_) (λh=>?_))
     .refine sk (ai (ah (ai (ai (bu ?_)))));refine ea 0 (ao rfl cY (oM) rfl) ?_;refine dm ?_;refine dm ?_;obtain⟨Xw,F,h⟩:=aa h;refine db (ay (t:=Tl) rfl nk ew F) ?_;refine da (ak (t:=Tl) rfl ew rfl) ?_;refine dm ?_;obtain⟨Y,E,h⟩:=aa h;refine db (ay (t:=Ti) rfl fD bJ E) ?_;refine da (ak (t:=Ti) rfl bJ rfl) ?_;refine df bY ?_;obtain⟨qt,Q,h⟩:=aa h;refine jb (au [.tmp 26,.tmp 33] rfl rfl KO rfl (gp k a0 Y qt Q)) ?_;refine ja (eS rfl) ?_;refine nt (cw h (λh=>?_) (λh=>?_))
      .refine sr (cq (nt (rx (br (aX (br (aX (bg ?_))))))));obtain rfl:=hR _ h;exact ra
      .refine sk (ai (sr ?_));iterate 3 refine mq ?_
       obtain⟨Xv,D,h⟩:=aa h;refine jb (ay (t:=Tl) rfl nk ew D) ?_;refine ja (ak (t:=Tl) rfl ew rfl) ?_;refine mq ?_;obtain⟨j,y,h⟩:=aa h;refine jb (ay (t:=Ti) rfl fD bJ y) ?_;refine ja (ak (t:=Ti) rfl bJ rfl) ?_;obtain⟨mw,O,h⟩:=aa h;refine fr 1 ?_;refine kb (kO (N:=[(.tmp 36,.eq z9),(.tmp 43,I j)]) (au [.tmp 36,.tmp 43] rfl rfl Of rfl (oI k y8.1 j mw O)) (λ_ _ _ hv hn=>⟨(lend hn.1 hv),hn.2.1,trivial⟩) (λ_=>⟨rfl,ou⟩)) ?_;refine nt (cv h (λh=>?_) (λh=>?_))
       .refine sr (cq (nt (rx (br (aX (br (aX (bg ?_))))))));obtain rfl:=hR _ h;exact ra
       .refine sk (ae ?_);iterate 3 refine mq ?_
        obtain⟨zz,x,h⟩:=aa h;refine jb (ay (t:=Tl) rfl nk ew x) ?_;refine ja (ak (t:=Tl) rfl ew rfl) ?_;refine mq ?_;obtain⟨c,u,h⟩:=aa h;refine jb (ay (t:=Ti) rfl fD bJ u) ?_;refine ja (ak (t:=Ti) rfl bJ rfl) ?_;refine ja (aR (t:=Ti) [(.tmp 52,_)] [c] rfl rfl cH (.cons rfl .int .nil) rfl rfl) ?_;obtain⟨Xy,M,h⟩:=aa h;refine cz rfl rfl rfl (bi rfl rfl cH (ap M)) ⟨rfl,rfl,trivial⟩ λmc=>?_;refine aq (aG (aI (tn (ae ?_))));refine mq ?_;obtain⟨X,s,h⟩:=aa h;refine jb (bh rfl s) ?_;refine aq (nl ?_);exact jz (mc,(y8.1++[c],X)) h [1,0]
     .refine f9 (bO (bO (c9 (bn ?_))));exact jz (z9,y8.1) h [0,1]
    .refine ae (mq ?_);obtain⟨U,l,h⟩:=aa h;refine jb (bh rfl l) ?_;refine aq (nl ?_);exact jz (z7,(x6,U)) h [0,1]
   .refine xa ?_;exact jz ((),()) h []
  .refine sr (cq (nt (aD ?_)));cases h;exact ra
def jj(k:Nat)(a0:ab)(a1:Int):Option Bool:=
 (gd k a1 0 (a0.2.2.2.2.1.length:Int)).bind λr2=>
 some r2
theorem tX(k:Nat)(a0:ab)(a1:Int)(r:Bool)(h:jj k a0 a1=some r):
 cX Tryz.prog 99 [.rep am a0,I a1] [] (λ_:Unit=>(bz [.eq (.bool r)],[])):=by
 unfold jj at h
 replace h:=aW h
 refine cX.of 10 Tryz.func99 rfl Tryz.ntmps99 rfl λS w0=>?_
 refine sr ?_
 refine bx λb1=>?_
 refine cq ?_
 refine nt ?_
 refine sr ?_
 refine mq ?_
 refine fl bW ?_
 refine lo fq ?_
 refine ol pq ?_
 obtain⟨r2,c,h⟩:=aa h
 have e:=iu k a1 0 (a0.2.2.2.2.1.length:Int) r2 c
 refine jc (au [.tmp 5,.const (.int .i64 (0)),.tmp 8] rfl rfl HD rfl e) ?_
 refine aq ?_
 refine nt ?_
 refine aD ?_
 cases h
 exact ra
def ik(k:Nat)(a0:ab)(a1:aQ):Option Int:=
 (((dz k a0 a1.1).bind λr5=>
 if¬(r5=true) then(some true) else((jj k a0 a1.2.1).bind λr6=>
 some (!r6))):Option (Bool)).bind λx3=>
 if x3=true then(some 3) else(some 0)
theorem rJ(k:Nat)(a0:ab)(a1:aQ)(r:Int)(h:ik k a0 a1=some r):
 cX Tryz.prog 75 [.rep am a0,.rep aL a1] [] (λ_:Unit=>(bz [I r],[])):=by
 unfold ik at h
 replace h:=aW h
 refine cX.of 17 Tryz.func75 rfl Tryz.ntmps75 rfl λS w0=>?_
 refine sr ?_
 refine bx λb1=>?_
 refine bx λb2=>?_
 refine cq ?_
 refine nt ?_
 refine ai ?_
 refine aC (Z:=Unit) (α:=Bool) (λz4 x3=>[(16,.eq (.bool x3))]) (λz4 x3=>[]) h (λK h=>?_) (λz4 x3 h=>?_)
 .
  refine ae (fr 1 ?_);refine lo cY ?_;refine fl Am ?_;refine fr 1 ?_;refine lo bJ ?_;obtain⟨r5,e,h⟩:=aa h;refine jb (au [.tmp 5,.tmp 7] rfl rfl KO rfl (gp k a0 a1.1 r5 e)) ?_;refine ja (eS rfl) ?_;refine mq ?_;refine bU (s:=10) rfl (λhb=>?_) (λhb=>?_)
  .replace h:=dO (rL hb) h;iterate 5 refine gn ?_
   refine pt (nl ?_);exact jz ((),true) h []
  .replace h:=bZ (mM hb) h;refine fr 1 ?_;refine fe rfl rfl rfl rfl rfl rfl (ao rfl cY (oM) rfl) ⟨rfl,trivial⟩ ?_;refine ga (av rfl Ak) ?_;refine fr 1 ?_;refine fe rfl rfl rfl rfl rfl rfl (ao rfl bJ jQ rfl) ⟨rfl,trivial⟩ ?_;obtain⟨r6,c,h⟩:=aa h;refine gb (au [.tmp 11,.tmp 13] rfl rfl V0 rfl (tX k a0 a1.2.1 r6 c)) ?_;refine ga (eS rfl) ?_;refine pf (nl ?_);exact jz ((), !r6) h []
 .
  refine cv h (λh=>?_) (λh=>?_)
  .refine sr (cq (nt (rx ?_)));cases h;exact ra
  .refine sk (sr (cq (nt (aD ?_))));cases h;exact ra
def fQ(k:Nat)(a0:ab):Nat->Int->Option (Except Int Unit)
 |0,_=>none
 |n+1,c=>
  if c < (a0.2.2.2.2.1.length:Int) then((aH a0.2.2.2.2.1 c).bind λj=>
  (j8 k a0 j).bind λe=>
  if¬(e=0) then(some (.error e)) else((ck (c+1)).bind λh=>
  fQ k a0 n h)) else(some (.ok ()))
def fP(k:Nat)(a0:ab):Nat->Int->Option (Except Int Unit)
 |0,_=>none
 |n+1,c=>
  if c < (a0.2.2.2.2.2.length:Int) then((aH a0.2.2.2.2.2 c).bind λj=>
  (ik k a0 j).bind λe=>
  if¬(e=0) then(some (.error e)) else((ck (c+1)).bind λh=>
  fP k a0 n h)) else(some (.ok ()))
def me(k:Nat)(a0:ab):Option Int:=
 (((gd k a0.1 1 5).bind λr4=>
 if¬(r4=true) then(some true) else((gd k a0.2.1 0 3).bind λr5=>
 if¬(r5=true) then(some true) else((gd k a0.2.2.1 0 3).bind λr6=>
 if¬(r6=true) then(some true) else((gd k a0.2.2.2.1 1 3).bind λr7=>
 some (!r7))))):Option (Bool)).bind λx2=>
 if x2=true then(some 1) else(if(a0.2.2.2.2.1.length:Int)=0 then(some 7) else(if 6 < (a0.2.2.2.2.1.length:Int) then(some 6) else(bE (α:=Unit) (fQ k a0 k 0) (some) λ_=>
 if 8 < (a0.2.2.2.2.2.length:Int) then(some 6) else(bE (α:=Unit) (fP k a0 k 0) (some) λ_=>
 some 0))))
theorem sZ(k:Nat)(a0:ab)(r:Int)(h:me k a0=some r):
 cX Tryz.prog 43 [.rep am a0] [] (λ_:Unit=>(bz [I r],[])):=by
 unfold me at h
 replace h:=aW h
 refine cX.of 75 Tryz.func43 rfl Tryz.ntmps43 rfl λS w0=>?_
 refine sr ?_
 refine bx λb1=>?_
 refine cq ?_
 refine nt ?_
 refine ai ?_
 refine aC (Z:=Unit) (α:=Bool) (λz3 x2=>[(1,Pt b1),(28,.eq (.bool x2))]) (λz3 x2=>[.obj b1 25 (.rep am a0)]) h (λK h=>?_) (λz3 x2 h=>?_)
 .
  refine ae (fl fx ?_);refine lo bJ ?_;obtain⟨r4,Xw,h⟩:=aa h;refine jc (au [.tmp 8,.const (.int .i64 (1)),.const (.int .i64 (5))] rfl rfl HD rfl (iu k a0.1 1 5 r4 Xw)) ?_;refine ja (eS rfl) ?_;refine mq ?_;refine bU (s:=11) rfl (λhb=>?_) (λhb=>?_)
  .replace h:=dO (rL hb) h;iterate 4 refine gn ?_
   refine pt ?_;refine mq ?_;iterate 4 refine gn ?_
   refine pt ?_;refine mq ?_;iterate 4 refine gn ?_
   refine pt (nl ?_);exact jz ((),true) h [0]
  .replace h:=bZ (mM hb) h;refine ga (av rfl oV) ?_;refine fe rfl rfl rfl rfl rfl rfl (ao rfl bJ jQ rfl) ⟨rfl,trivial⟩ ?_;obtain⟨r5,Xv,h⟩:=aa h;refine gc (au [.tmp 13,.const (.int .i64 (0)),.const (.int .i64 (3))] rfl rfl HD rfl (iu k a0.2.1 0 3 r5 Xv)) ?_;refine ga (eS rfl) ?_;refine pf ?_;refine mq ?_;refine bU (s:=17) rfl (λhb=>?_) (λhb=>?_)
   .replace h:=dO (rL hb) h;iterate 4 refine gn ?_
    refine pt ?_;refine mq ?_;iterate 4 refine gn ?_
    refine pt (nl ?_);exact jz ((),true) h [0]
   .replace h:=bZ (mM hb) h;refine ga (av rfl so) ?_;refine fe rfl rfl rfl rfl rfl rfl (ao rfl bJ jQ rfl) ⟨rfl,trivial⟩ ?_;obtain⟨r6,zz,h⟩:=aa h;refine gc (au [.tmp 19,.const (.int .i64 (0)),.const (.int .i64 (3))] rfl rfl HD rfl (iu k a0.2.2.1 0 3 r6 zz)) ?_;refine ga (eS rfl) ?_;refine pf ?_;refine mq ?_;refine bU (s:=23) rfl (λhb=>?_) (λhb=>?_)
    .replace h:=dO (rL hb) h;iterate 4 refine gn ?_
     refine pt (nl ?_);exact jz ((),true) h [0]
    .replace h:=bZ (mM hb) h;refine ga (av rfl uA) ?_;refine fe rfl rfl rfl rfl rfl rfl (ao rfl bJ jQ rfl) ⟨rfl,trivial⟩ ?_;obtain⟨r7,qt,h⟩:=aa h;refine gc (au [.tmp 25,.const (.int .i64 (1)),.const (.int .i64 (3))] rfl rfl HD rfl (iu k a0.2.2.2.1 1 3 r7 qt)) ?_;refine ga (eS rfl) ?_;refine pf (nl ?_);exact jz ((), !r7) h [0]
 .
  refine cv h (λh=>?_) (λh=>?_)
  .refine sr (cq (nt (rx ?_)));cases h;exact ra
  .refine sk (ai (sr (fl bW ?_)));refine lo fq ?_;refine ol pq ?_;refine jb (jO rfl) ?_;refine nt (ci h (λh=>?_) (λh=>?_))
   .refine sr (cq (nt (rx ?_)));cases h;exact ra
   .refine sk (ai (sr (fl bW ?_)));refine lo fq ?_;refine ol pq ?_;refine jb (iM rfl) ?_;refine nt (ci h (λh=>?_) (λh=>?_))
    .refine sr (cq (nt (rx ?_)));cases h;exact ra
    .refine sk (cO (Z:=Unit) (α:=Unit) (λz9 x8=>[(1,Pt b1)]) (λz9 x8=>[.obj b1 25 (.rep am a0)]) (λe=>e=r) h (λe h=>Option.some.inj h) (λK hR h=>?_) (λz9 x8 h=>?_))
     .refine sr (cq (nt (ah ?_)));refine aE (λx j=>[(1,Pt b1),(3,I j)]) (λx j=>[.obj b1 25 (.rep am a0)]) (fQ k a0) k () 0 (λ_=>rfl) h (SE.fin [0] ⟨rfl,rfl,trivial⟩ rfl) (λn x j h=>?_);unfold fQ at h;refine ai (sr (mq ?_));refine fl bW ?_;refine lo fq ?_;refine ol pq ?_;refine jb (bj rfl) ?_;refine nt (ci h (λh=>?_) (λh=>?_))
      .refine sk (ai (ah (ai (bu ?_))));refine ea 0 (ao rfl cY (oM) rfl) ?_;refine da (av rfl bW) ?_;refine ea 0 (ao rfl fq jQ rfl) ?_;refine dm ?_;obtain⟨Y,J,h⟩:=aa h;refine db (ay (t:=(.slice Tl)) rfl pq kB J) ?_;refine da (ak (t:=(.slice Tl)) rfl kB rfl) ?_;refine df bY ?_;obtain⟨mw,O,h⟩:=aa h;refine jb (au [.tmp 44,.tmp 49] rfl rfl Wc rfl (vd k a0 Y mw O)) ?_;refine aq (nt (sr ?_));refine mq ?_;refine jb (dZ rfl) ?_;refine nt (cn h (λh=>?_) (λh=>?_))
       .refine sr (mq ?_);refine aq (nt (aD (br (aX (bg ?_)))));obtain rfl:=hR _ h;exact ra
       .refine ba (aI (tn (ae (mq ?_))));obtain⟨X,F,h⟩:=aa h;refine jb (bh rfl F) ?_;refine aq (nl ?_);exact jz ((),X) h [0]
      .refine xa ?_;exact jz ((),()) h [0]
     .refine ai (sr (fl fH ?_));refine lo nh ?_;refine ol DI ?_;refine jb (iM rfl) ?_;refine nt (ci h (λh=>?_) (λh=>?_))
      .refine sr (cq (nt (rx ?_)));cases h;exact ra
      .refine sk (cO (Z:=Unit) (α:=Unit) (λu y=>[]) (λu y=>[]) (λe=>e=r) h (λe h=>Option.some.inj h) (λK hR h=>?_) (λu y h=>?_))
       .refine sr (cq (nt (ah ?_)));refine aE (λl c=>[(1,Pt b1),(5,I c)]) (λl c=>[.obj b1 25 (.rep am a0)]) (fP k a0) k () 0 (λ_=>rfl) h (SE.fin [0] ⟨rfl,rfl,trivial⟩ rfl) (λn l c h=>?_);unfold fP at h;refine ai (sr (mq ?_));refine fl fH ?_;refine lo nh ?_;refine ol DI ?_;refine jb (bj rfl) ?_;refine nt (ci h (λh=>?_) (λh=>?_))
        .refine sk (ai (ah (ai (bu ?_))));refine ea 0 (ao rfl cY (oM) rfl) ?_;refine da (av rfl fH) ?_;refine ea 0 (ao rfl nh jQ rfl) ?_;refine dm ?_;obtain⟨U,E,h⟩:=aa h;refine db (ay (t:=aL) rfl DI nN E) ?_;refine da (ak (t:=aL) rfl nN rfl) ?_;refine df bY ?_;obtain⟨mc,M,h⟩:=aa h;refine jb (au [.tmp 65,.tmp 70] rfl rfl Wb rfl (rJ k a0 U mc M)) ?_;refine aq (nt (sr ?_));refine mq ?_;refine jb (dZ rfl) ?_;refine nt (cn h (λh=>?_) (λh=>?_))
         .refine sr (mq ?_);refine aq (nt (aD (br (aX (bg ?_)))));obtain rfl:=hR _ h;exact ra
         .refine ba (aI (tn (ae (mq ?_))));obtain⟨Q,D,h⟩:=aa h;refine jb (bh rfl D) ?_;refine aq (nl ?_);exact jz ((),Q) h [0]
        .refine xa ?_;exact jz ((),()) h []
       .refine sr (cq (nt (aD ?_)));cases h;exact ra
def eG(k:Nat)(a2:Int)(e:(List Int)):Nat->Int->Option (Except ((List Int)×Bool) Unit)
 |0,_=>none
 |n+1,c=>
  if c < (e.length:Int) then((aH e c).bind λD=>
  if¬(D=a2) then((ck (c+1)).bind λy=>
  eG k a2 e n y) else(((if 0 < c then((ck (c - 1)).bind λx=>
  (aH e x).bind λl=>
  (bV (bb (length ([]:(List Int))+length [l]))).bind λ_=>
  some (([]:(List Int))++[l])) else(some ([]:(List Int)))):Option ((List Int))).bind λh=>
  (((ck (c+1)).bind λs=>
  if s < (e.length:Int) then((ck (c+1)).bind λr=>
  (aH e r).bind λj=>
  (bV (bb (length h+length [j]))).bind λ_=>
  some (h++[j])) else(some h)):Option ((List Int))).bind λu=>
  some (.error (u,true)))) else(some (.ok ()))
def ff(k:Nat)(a0:ab)(a1:Int)(a2:Int):Nat->Int->Option (Except ((List Int)×Bool) Unit)
 |0,_=>none
 |n+1,y4=>
  (aH a0.2.2.2.2.1 a1).bind λx6=>
  if y4 < (x6.length:Int) then(bE (α:=Unit) ((aH a0.2.2.2.2.1 a1).bind λx9=>
  (aH x9 y4).bind λh=>
  eG k a2 h k 0) (λe=>some (.error e)) λ_=>
  (ck (y4+1)).bind λc=>
  ff k a0 a1 a2 n c) else(some (.ok ()))
def jI(k:Nat)(a0:ab)(a1:Int)(a2:Int):Option ((List Int)×Bool):=
 bE (α:=Unit) (ff k a0 a1 a2 k 0) (some) λ_=>
 some (([]:(List Int)),false)
theorem nQ(k:Nat)(a0:ab)(a1:Int)(a2:Int)(r:(List Int)×Bool)(h:jI k a0 a1 a2=some r):
 cX Tryz.prog 45 [.rep am a0,I a1,I a2] [] (λ_:Unit=>(bz [.rep Tl r.1,.eq (.bool r.2)],[])):=by
 unfold jI at h
 replace h:=aW h
 refine cX.of 66 Tryz.func45 rfl Tryz.ntmps45 rfl λS w0=>?_
 refine sr ?_
 refine bx λb1=>?_
 refine cq ?_
 refine cq ?_
 refine nt ?_
 refine cO (Z:=Unit) (α:=Unit) (λz3 x2=>[]) (λz3 x2=>[]) (λe=>e=r) h (λe h=>Option.some.inj h) (λK hR h=>?_) (λz3 x2 h=>?_)
 .
  refine sr (cq (nt (ah ?_)));refine aE (λz5 y4=>[(1,I a1),(2,I a2),(3,Pt b1),(8,I y4)]) (λz5 y4=>[.obj b1 25 (.rep am a0)]) (ff k a0 a1 a2) k () 0 (λ_=>rfl) h (SE.fin [0] ⟨rfl,rfl,rfl,rfl,trivial⟩ rfl) (λn z5 y4 h=>?_);unfold ff at h;refine ai (sr (mq ?_));refine fl bW ?_;refine lo fq ?_;refine mq ?_;obtain⟨x6,XA,h⟩:=aa h;refine jb (ay (t:=(.slice Tl)) rfl pq kB XA) ?_;refine ja (ak (t:=(.slice Tl)) rfl kB rfl) ?_;refine ol nk ?_;refine jb (bj rfl) ?_;refine nt (ci h (λh=>?_) (λh=>?_))
  .refine sk (cO (Z:=Unit) (α:=Unit) (λz8 x7=>[(1,I a1),(2,I a2),(3,Pt b1),(8,I y4)]) (λz8 x7=>[.obj b1 25 (.rep am a0)]) (λe=>e=r) h (λe h=>hR e h) (λK hR h=>?_) (λz8 x7 h=>?_))
   .refine ah (sr (fl bW ?_));refine lo fq ?_;refine mq ?_;obtain⟨x9,Xz,h⟩:=aa h;refine jb (ay (t:=(.slice Tl)) rfl pq kB Xz) ?_;refine ja (ak (t:=(.slice Tl)) rfl kB rfl) ?_;refine mq ?_;obtain⟨y,mw,h⟩:=aa h;refine jb (ay (t:=Tl) rfl nk ew mw) ?_;refine ja (ak (t:=Tl) rfl ew rfl) ?_;refine aq (nt (sr ?_));refine cq (nt (ah ?_));refine aE (λD s=>[(1,I a1),(2,I a2),(3,Pt b1),(8,I y4),(9,.rep Tl y),(10,I s)]) (λD s=>[.obj b1 25 (.rep am a0)]) (eG k a2 y) k () 0 (λ_=>rfl) h (SE.fin [0] ⟨rfl,rfl,rfl,rfl,rfl,rfl,trivial⟩ rfl) (λn D s h=>?_);unfold eG at h;refine ai (sr ?_);iterate 2 refine mq ?_
    refine ol fD ?_;refine jb (bj rfl) ?_;refine nt (ci h (λh=>?_) (λh=>?_))
    .refine sk (ai (ah (ai (sr ?_))));iterate 2 refine mq ?_
     obtain⟨XE,mc,h⟩:=aa h;refine jb (ay (t:=Ti) rfl fD bJ mc) ?_;refine ja (ak (t:=Ti) rfl bJ rfl) ?_;refine mq ?_;refine jb (dZ rfl) ?_;refine nt (cn h (λh=>?_) (λh=>?_))
     .refine f9 (bO (c9 (tn (ae (mq ?_)))));obtain⟨Xw,Y,h⟩:=aa h;refine jb (bh rfl Y) ?_;refine aq (nl ?_);exact jz ((),Xw) h [0]
     .refine sk (sr (cq (nt ?_)));refine aC (Z:=Value) (α:=(List Int)) (λc j=>[(9,.rep Tl y),(10,I s),(11,.eq c)]) (λc j=>[.sl c 3 Ti j]) h (λK h=>?_) (λc j h=>?_)
      .refine sr (mq ?_);refine jb (iM rfl) ?_;refine nt (ci h (λh=>?_) (λh=>?_))
       .refine ae ?_;iterate 3 refine mq ?_
        obtain⟨XD,X,h⟩:=aa h;refine jb (dR rfl X) ?_;obtain⟨F,U,h⟩:=aa h;refine jb (ay (t:=Ti) rfl fD bJ U) ?_;refine ja (ak (t:=Ti) rfl bJ rfl) ?_;refine ja (aR (t:=Ti) [(.tmp 49,_)] [F] rfl rfl cH (.cons rfl .int .nil) rfl rfl) ?_;refine eQ (SE.nil 3 Ti) ?_;obtain⟨XG,zz,h⟩:=aa h;refine cz rfl rfl rfl (bi rfl rfl cH (ap zz)) ⟨rfl,rfl,trivial⟩ λXy=>?_;refine aq (nl ?_);exact jz (Xy,([]:(List Int))++[F]) h [0]
       .refine ba (ax (bv (SE.nil 3 Ti) ?_));exact jz ((.slice none 0 0),([]:(List Int))) h [0]
      .refine aC (Z:=Value) (α:=(List Int)) (λl u=>[(11,.eq l)]) (λl u=>[.sl l 3 Ti u]) h (λK h=>?_) (λl u h=>?_)
       .refine sr (mq ?_);obtain⟨XC,Q,h⟩:=aa h;refine jb (bh rfl Q) ?_;refine mq ?_;refine ol fD ?_;refine jb (bj rfl) ?_;refine nt (ci h (λh=>?_) (λh=>?_))
        .refine ae ?_;iterate 3 refine mq ?_
         obtain⟨XB,O,h⟩:=aa h;refine jb (bh rfl O) ?_;obtain⟨E,M,h⟩:=aa h;refine jb (ay (t:=Ti) rfl fD bJ M) ?_;refine ja (ak (t:=Ti) rfl bJ rfl) ?_;refine ja (aR (t:=Ti) [(.tmp 62,_)] [E] rfl rfl cH (.cons rfl .int .nil) rfl rfl) ?_;obtain⟨XF,qt,h⟩:=aa h;refine cz rfl rfl rfl (bi rfl rfl cH (ap qt)) ⟨rfl,rfl,trivial⟩ λXx=>?_;refine aq (nl ?_);exact jz (Xx,j++[E]) h [0]
        .refine ba (ax ?_);exact jz (c,j) h [0]
       .refine sr (mq ?_);refine aq ?_;refine cq (nt (aD (br (aX (br (aX (bg ?_)))))));refine bv (fy [6,11,65] ⟨rfl,rfl,rfl,trivial⟩) ?_;obtain rfl:=hR _ h;exact rb
    .refine f9 (bO (bO (c9 (bn ?_))));exact jz ((),()) h [0]
   .refine ae (mq ?_);obtain⟨Xv,J,h⟩:=aa h;refine jb (bh rfl J) ?_;refine aq (nl ?_);exact jz ((),Xv) h [0]
  .refine xa ?_;exact jz ((),()) h []
 .
  refine sr (cq ?_);refine cq (nt (aD ?_));refine bv (dA (t:=Tl) (x:=([]:(List Int))) 6 rfl .nil rfl rfl) ?_;cases h;exact rb
def fO(k:Nat)(a0:ab)(a2:Int):Nat->(Int×Int)->Option (Except Int Int)
 |0,_=>none
 |n+1,y4=>
  if 0≤y4.2 then((jI k a0 y4.2 a2).bind λr6=>
  if r6.2=true then(some (.error y4.1)) else((ck (y4.1+1)).bind λx7=>
  (ck (y4.2 - 1)).bind λx8=>
  fO k a0 a2 n (x7,x8))) else(some (.ok y4.1))
def pM(k:Nat)(a0:ab)(a1:Int)(a2:Int):Option Int:=
 bE (α:=Int) (fO k a0 a2 k (0,a1)) (some) λx2=>
 some x2
theorem BA(k:Nat)(a0:ab)(a1:Int)(a2:Int)(r:Int)(h:pM k a0 a1 a2=some r):
 cX Tryz.prog 91 [.rep am a0,I a1,I a2] [] (λ_:Unit=>(bz [I r],[])):=by
 unfold pM at h
 replace h:=aW h
 refine cX.of 28 Tryz.func91 rfl Tryz.ntmps91 rfl λS w0=>?_
 refine sr ?_
 refine bx λb1=>?_
 refine cq ?_
 refine nt ?_
 refine sr ?_
 refine cq ?_
 refine nt ?_
 refine cO (Z:=Unit) (α:=Int) (λz3 x2=>[(7,I x2)]) (λz3 x2=>[]) (λe=>e=r) h (λe h=>Option.some.inj h) (λK hR h=>?_) (λz3 x2 h=>?_)
 .
  refine sr (mq ?_);refine aq (nt (ah ?_));refine aE (λz5 y4=>[(2,I a2),(3,Pt b1),(7,I y4.1),(8,I y4.2)]) (λz5 y4=>[.obj b1 25 (.rep am a0)]) (fO k a0 a2) k () (0,a1) (λ_=>rfl) h (SE.fin [0] ⟨rfl,rfl,rfl,rfl,trivial⟩ rfl) (λn z5 y4 h=>?_);unfold fO at h;refine ai (sr (mq ?_));refine jb (gV rfl) ?_;refine nt (ci h (λh=>?_) (λh=>?_))
  .refine sk (ai (ah (ai (sr (lo cY ?_)))));iterate 2 refine mq ?_
   obtain⟨r6,l,h⟩:=aa h;refine jc (au [.tmp 17,.tmp 18,.tmp 19] rfl rfl Rj rfl (nQ k a0 y4.2 a2 r6 l)) ?_;refine mq ?_;refine xr ?_;refine xr ?_;refine aq ?_;refine aq (nt (sr ?_));refine mq (nt ?_);refine cv h (λh=>?_) (λh=>?_)
   .refine sr (mq ?_);refine aq (nt (rx (br (aX (bg ?_)))));obtain rfl:=hR _ h;exact ra
   .refine sk (ae (mq ?_));obtain⟨x7,j,h⟩:=aa h;refine jb (bh rfl j) ?_;refine aq (aG (aI (tn (ae ?_))));refine mq ?_;obtain⟨x8,c,h⟩:=aa h;refine jb (dR rfl c) ?_;refine aq (nl ?_);exact jz ((),(x7,x8)) h [0]
  .refine xa ?_;exact jz ((),y4.1) h []
 .
  refine sr (mq ?_);refine aq (nt (aD ?_));cases h;exact ra
def gK(k:Nat)(a0:ab)(a2:(List Int))(r8:(List Int)×Bool):Nat->(Int×Int)->Option Int
 |0,_=>none
 |n+1,c=>
  if c.2 < (r8.1.length:Int) then((((aH r8.1 c.2).bind λj=>
  (aH a2 j).bind λh=>
  if a0.2.1≤h then(some 0) else(some c.1)):Option (Int)).bind λl=>
  (ck (c.2+1)).bind λe=>
  gK k a0 a2 r8 n (l,e)) else(some c.1)
def gP(k:Nat)(a0:ab)(a1:Int)(a2:(List Int)):Nat->((List Int)×Int)->Option (List Int)
 |0,_=>none
 |n+1,y4=>
  if y4.2 < a0.1 then((((jI k a0 a1 y4.2).bind λr8=>
  ((if¬(r8.2=true) then((pM k a0 a1 y4.2).bind λs=>
  some (decide (a0.2.2.2.1≤s))) else(some false)):Option (Bool)).bind λx9=>
  if x9=true then((bV (bb (length y4.1+length [(-1:Int)]))).bind λ_=>
  some (y4.1++[(-1:Int)])) else(if¬(r8.2=true) then((aH a2 y4.2).bind λh=>
  (bV (bb (length y4.1+length [h]))).bind λ_=>
  some (y4.1++[h])) else((aH a2 y4.2).bind λr=>
  if 0≤r then((aH a2 y4.2).bind λl=>
  (ck (l+1)).bind λe=>
  (bV (bb (length y4.1+length [e]))).bind λ_=>
  some (y4.1++[e])) else(((gK k a0 a2 r8 k ((-1:Int),0)):Option (Int)).bind λc=>
  (bV (bb (length y4.1+length [c]))).bind λ_=>
  some (y4.1++[c]))))):Option ((List Int))).bind λx6=>
  (ck (y4.2+1)).bind λj=>
  gP k a0 a1 a2 n (x6,j)) else(some y4.1)
def pL(k:Nat)(a0:ab)(a1:Int)(a2:(List Int)):Option (List Int):=
 ((gP k a0 a1 a2 k (([]:(List Int)),0)):Option ((List Int))).bind λx2=>
 some x2
theorem Bz(k:Nat)(a0:ab)(a1:Int)(a2:(List Int))(r:(List Int))(h:pL k a0 a1 a2=some r):
 cX Tryz.prog 68 [.rep am a0,I a1,.rep Tl a2] [] (λ_:Unit=>(bz [.rep Tl r],[])):=by
 unfold pL at h
 replace h:=aW h
 refine cX.of 86 Tryz.func68 rfl Tryz.ntmps68 rfl λS w0=>?_
 refine sr ?_
 refine bx λb1=>?_
 refine cq ?_
 refine nt ?_
 refine sr ?_
 refine cq ?_
 refine nt ?_
 refine aC (Z:=Value) (α:=(List Int)) (λz3 x2=>[(7,.eq z3)]) (λz3 x2=>[.sl z3 3 Ti x2]) h (λK h=>?_) (λz3 x2 h=>?_)
 .
  refine sr (cq (nt (ah ?_)));refine gi (SE.nil 3 Ti) ?_;refine aE (λz5 y4=>[(1,I a1),(2,.rep Tl a2),(3,Pt b1),(7,.eq z5),(8,I y4.2)]) (λz5 y4=>[.obj b1 25 (.rep am a0),.sl z5 3 Ti y4.1]) (gP k a0 a1 a2) k (.slice none 0 0) (([]:(List Int)),0) (λ_=>rfl) h (SE.fin [1,0] ⟨rfl,rfl,rfl,rfl,rfl,trivial⟩ rfl) (λn z5 y4 h=>?_);unfold gP at h;refine ai (sr (mq ?_));refine fl fx ?_;refine lo bJ ?_;refine jb (bj rfl) ?_;refine nt (ci h (λh=>?_) (λh=>?_))
  .refine sk (aC (Z:=Value) (α:=(List Int)) (λz7 x6=>[(1,I a1),(2,.rep Tl a2),(3,Pt b1),(7,.eq z7),(8,I y4.2)]) (λz7 x6=>[.obj b1 25 (.rep am a0),.sl z7 3 Ti x6]) h (λK h=>?_) (λz7 x6 h=>?_))
   .refine ah (sr (lo cY ?_));iterate 2 refine mq ?_
    obtain⟨r8,XC,h⟩:=aa h;refine jc (au [.tmp 20,.tmp 21,.tmp 22] rfl rfl Rj rfl (nQ k a0 a1 y4.2 r8 XC)) ?_;refine mq ?_;refine xr ?_;refine xr ?_;refine aq ?_;refine aq (nt (ah ?_));refine aC (Z:=Unit) (α:=Bool) (λx x9=>[(1,I a1),(2,.rep Tl a2),(3,Pt b1),(7,.eq z5),(8,I y4.2),(9,.rep Tl r8.1),(10,.eq (.bool r8.2)),(46,.eq (.bool x9))]) (λx x9=>[.obj b1 25 (.rep am a0),.sl z5 3 Ti y4.1]) h (λK h=>?_) (λx x9 h=>?_)
    .refine bu ?_;refine dm ?_;refine da (eS rfl) ?_;refine jH rfl rfl rfl (aK rfl) ⟨rfl,trivial⟩ (λhb=>?_) (λhb=>?_)
     .replace h:=dO (rL hb) h;refine iD 0 rfl rfl rfl rfl rfl rfl (ao rfl cY (oM) rfl) ⟨rfl,rfl,trivial⟩ ?_;refine aJ rfl rfl rfl rfl rfl (aK rfl) ⟨rfl,rfl,trivial⟩ ?_;refine aJ rfl rfl rfl rfl rfl (aK rfl) ⟨rfl,rfl,trivial⟩ ?_;obtain⟨E,Xv,h⟩:=aa h;refine aJ rfl rfl rfl rfl rfl (au [.tmp 50,.tmp 51,.tmp 52] rfl rfl V4 rfl (BA k a0 a1 y4.2 E Xv)) ⟨rfl,rfl,rfl,rfl,trivial⟩ ?_;refine aJ rfl rfl rfl rfl rfl (av rfl uA) ⟨rfl,rfl,trivial⟩ ?_;refine iD 0 rfl rfl rfl rfl rfl rfl (ao rfl bJ jQ rfl) ⟨rfl,rfl,trivial⟩ ?_;refine df bY ?_;refine gb (gV rfl) ?_;refine pt ?_;refine aq (nl ?_);exact jz ((),decide (a0.2.2.2.1≤E)) h [0,1]
     .replace h:=bZ (mM hb) h;iterate 6 refine dg ?_
      refine df bY ?_;refine gn ?_;refine pf ?_;refine aq (nl ?_);exact jz ((),false) h [0,1]
    .refine cv h (λh=>?_) (λh=>?_)
     .refine ae (mq ?_);refine ja (aR (t:=Ti) [(.const (.int .i64 (-1)),_)] [(-1:Int)] rfl rfl cH (.cons rfl .int .nil) rfl rfl) ?_;obtain⟨XK,zz,h⟩:=aa h;refine fr 1 ?_;refine cz rfl rfl rfl (bi rfl rfl cH (ap zz)) ⟨rfl,rfl,trivial⟩ λXB=>?_;refine aq (aG (aI (bn ?_)));exact jz (XB,y4.1++[(-1:Int)]) h [1,0]
     .refine sr (mq ?_);refine ja (eS rfl) ?_;refine aq (nt ?_);refine cw h (λh=>?_) (λh=>?_)
      .refine ae ?_;iterate 3 refine mq ?_
       obtain⟨D,Y,h⟩:=aa h;refine jb (ay (t:=Ti) rfl fD bJ Y) ?_;refine ja (ak (t:=Ti) rfl bJ rfl) ?_;refine ja (aR (t:=Ti) [(.tmp 68,_)] [D] rfl rfl cH (.cons rfl .int .nil) rfl rfl) ?_;obtain⟨XJ,qt,h⟩:=aa h;refine fr 1 ?_;refine cz rfl rfl rfl (bi rfl rfl cH (ap qt)) ⟨rfl,rfl,trivial⟩ λXA=>?_;refine aq (aG (aI (bn ?_)));exact jz (XA,y4.1++[D]) h [1,0]
      .refine sr ?_;iterate 2 refine mq ?_
       obtain⟨XG,X,h⟩:=aa h;refine jb (ay (t:=Ti) rfl fD bJ X) ?_;refine ja (ak (t:=Ti) rfl bJ rfl) ?_;refine jb (gV rfl) ?_;refine aq (nt ?_);refine ci h (λh=>?_) (λh=>?_)
       .refine ae ?_;iterate 3 refine mq ?_
        obtain⟨XF,U,h⟩:=aa h;refine jb (ay (t:=Ti) rfl fD bJ U) ?_;refine ja (ak (t:=Ti) rfl bJ rfl) ?_;obtain⟨y,Q,h⟩:=aa h;refine jb (bh rfl Q) ?_;refine ja (aR (t:=Ti) [(.tmp 82,_)] [y] rfl rfl cH (.cons rfl .int .nil) rfl rfl) ?_;obtain⟨XI,mw,h⟩:=aa h;refine fr 1 ?_;refine cz rfl rfl rfl (bi rfl rfl cH (ap mw)) ⟨rfl,rfl,trivial⟩ λXz=>?_;refine aq (aG (aI (bn ?_)));exact jz (Xz,y4.1++[y]) h [1,0]
       .refine sr (cq (nt ?_));refine aC (Z:=Unit) (α:=Int) (λu e=>[(1,I a1),(2,.rep Tl a2),(3,Pt b1),(7,.eq z5),(8,I y4.2),(11,I e)]) (λu e=>[.obj b1 25 (.rep am a0),.sl z5 3 Ti y4.1]) h (λK h=>?_) (λu e h=>?_)
        .refine sr (cq (nt (ah ?_)));refine aE (λs c=>[(1,I a1),(2,.rep Tl a2),(3,Pt b1),(7,.eq z5),(8,I y4.2),(9,.rep Tl r8.1),(11,I c.1),(12,I c.2)]) (λs c=>[.obj b1 25 (.rep am a0),.sl z5 3 Ti y4.1]) (gK k a0 a2 r8) k () ((-1:Int),0) (λ_=>rfl) h (SE.fin [0,1] ⟨rfl,rfl,rfl,rfl,rfl,rfl,rfl,rfl,trivial⟩ rfl) (λn s c h=>?_);unfold gK at h;refine ai (sr ?_);iterate 2 refine mq ?_
         refine ol fD ?_;refine jb (bj rfl) ?_;refine nt (ci h (λh=>?_) (λh=>?_))
         .refine sk (aC (Z:=Unit) (α:=Int) (λl j=>[(1,I a1),(2,.rep Tl a2),(3,Pt b1),(7,.eq z5),(8,I y4.2),(9,.rep Tl r8.1),(11,I j),(12,I c.2)]) (λl j=>[.obj b1 25 (.rep am a0),.sl z5 3 Ti y4.1]) h (λK h=>?_) (λl j h=>?_))
          .refine ah (ai (bu ?_));refine dm ?_;refine dm ?_;refine dm ?_;obtain⟨XE,O,h⟩:=aa h;refine db (ay (t:=Ti) rfl fD bJ O) ?_;refine da (ak (t:=Ti) rfl bJ rfl) ?_;obtain⟨XD,M,h⟩:=aa h;refine db (ay (t:=Ti) rfl fD bJ M) ?_;refine da (ak (t:=Ti) rfl bJ rfl) ?_;refine da (av rfl oV) ?_;refine ea 0 (ao rfl bJ jQ rfl) ?_;refine df bY ?_;refine jb (gV rfl) ?_;refine nt (ci h (λh=>?_) (λh=>?_))
           .refine ae (cq (aG (bn ?_)));exact jz ((),0) h [0,1]
           .refine ba (bn ?_);exact jz ((),c.1) h [0,1]
          .refine ae (mq ?_);obtain⟨Xx,J,h⟩:=aa h;refine jb (bh rfl J) ?_;refine aq (nl ?_);exact jz ((),(j,Xx)) h [0,1]
         .refine xa ?_;exact jz ((),c.1) h [0,1]
        .refine ae ?_;iterate 2 refine mq ?_
         refine ja (aR (t:=Ti) [(.tmp 43,_)] [e] rfl rfl cH (.cons rfl .int .nil) rfl rfl) ?_;obtain⟨XH,mc,h⟩:=aa h;refine fr 1 ?_;refine cz rfl rfl rfl (bi rfl rfl cH (ap mc)) ⟨rfl,rfl,trivial⟩ λXy=>?_;refine aq (aG (aI (bn ?_)));exact jz (Xy,y4.1++[e]) h [1,0]
   .refine ae (mq ?_);obtain⟨Xw,F,h⟩:=aa h;refine jb (bh rfl F) ?_;refine aq (nl ?_);exact jz (z7,(x6,Xw)) h [0,1]
  .refine xa ?_;exact jz (z5,y4.1) h [1]
 .
  refine sr (mq ?_);refine aq (nt (aD ?_));refine bv (fy [6,7,85] ⟨rfl,rfl,rfl,trivial⟩) ?_;cases h;exact ra
def gR(k:Nat)(a0:ab)(a1:(List Int)):Nat->((List Int)×Int)->Option (List Int)
 |0,_=>none
 |n+1,y4=>
  if y4.2 < a0.1 then((((ny k a1 y4.2).bind λr8=>
  if r8=true then((bV (bb (length y4.1+length [a0.2.1]))).bind λ_=>
  some (y4.1++[a0.2.1])) else((bV (bb (length y4.1+length [(-1:Int)]))).bind λ_=>
  some (y4.1++[(-1:Int)]))):Option ((List Int))).bind λx6=>
  (ck (y4.2+1)).bind λc=>
  gR k a0 a1 n (x6,c)) else(some y4.1)
def gQ(k:Nat)(a0:ab):Nat->((List (List Int))×Int)->Option (List (List Int))
 |0,_=>none
 |n+1,c=>
  if c.2 < (a0.2.2.2.2.1.length:Int) then((aH c.1 c.2).bind λj=>
  (pL k a0 c.2 j).bind λe=>
  (bV (bb (length c.1+length [e]))).bind λ_=>
  (ck (c.2+1)).bind λh=>
  gQ k a0 n (c.1++[e],h)) else(some c.1)
def mI(k:Nat)(a0:ab)(a1:(List Int)):Option (List (List Int)):=
 ((gR k a0 a1 k (([]:(List Int)),0)):Option ((List Int))).bind λx2=>
 ((gQ k a0 k ([x2],0)):Option ((List (List Int)))).bind λc=>
 some c
theorem pN(k:Nat)(a0:ab)(a1:(List Int))(r:(List (List Int)))(h:mI k a0 a1=some r):
 cX Tryz.prog 39 [.rep am a0,.rep Tl a1] [] (λ_:Unit=>(bz [.rep (.slice Tl) r],[])):=by
 unfold mI at h
 replace h:=aW h
 refine cX.of 46 Tryz.func39 rfl Tryz.ntmps39 rfl λS w0=>?_
 refine sr ?_
 refine bx λb1=>?_
 refine cq ?_
 refine nt ?_
 refine sr ?_
 refine cq ?_
 refine nt ?_
 refine aC (Z:=Value) (α:=(List Int)) (λz3 x2=>[(2,Pt b1),(5,.eq z3)]) (λz3 x2=>[.obj b1 25 (.rep am a0),.sl z3 3 Ti x2]) h (λK h=>?_) (λz3 x2 h=>?_)
 .
  refine sr (cq (nt (ah ?_)));refine gi (SE.nil 3 Ti) ?_;refine aE (λz5 y4=>[(1,.rep Tl a1),(2,Pt b1),(5,.eq z5),(6,I y4.2)]) (λz5 y4=>[.obj b1 25 (.rep am a0),.sl z5 3 Ti y4.1]) (gR k a0 a1) k (.slice none 0 0) (([]:(List Int)),0) (λ_=>rfl) h (SE.fin [1,0] ⟨rfl,rfl,rfl,rfl,trivial⟩ rfl) (λn z5 y4 h=>?_);unfold gR at h;refine ai (sr (mq ?_));refine fl fx ?_;refine lo bJ ?_;refine jb (bj rfl) ?_;refine nt (ci h (λh=>?_) (λh=>?_))
  .refine sk (aC (Z:=Value) (α:=(List Int)) (λz7 x6=>[(1,.rep Tl a1),(2,Pt b1),(5,.eq z7),(6,I y4.2)]) (λz7 x6=>[.obj b1 25 (.rep am a0),.sl z7 3 Ti x6]) h (λK h=>?_) (λz7 x6 h=>?_))
   .refine ah (sr ?_);iterate 2 refine mq ?_
    obtain⟨r8,mw,h⟩:=aa h;refine jb (au [.tmp 15,.tmp 16] rfl rfl Of rfl (oI k a1 y4.2 r8 mw)) ?_;refine nt (cv h (λh=>?_) (λh=>?_))
    .refine ae (mq ?_);refine fl oV ?_;refine lo bJ ?_;refine ja (aR (t:=Ti) [(.tmp 20,_)] [a0.2.1] rfl rfl cH (.cons rfl .int .nil) rfl rfl) ?_;obtain⟨u9,mc,h⟩:=aa h;refine fr 1 ?_;refine cz rfl rfl rfl (bi rfl rfl cH (ap mc)) ⟨rfl,rfl,trivial⟩ λY=>?_;refine aq (aG (bn ?_));exact jz (Y,y4.1++[a0.2.1]) h [1,0]
    .refine ae (mq ?_);refine ja (aR (t:=Ti) [(.const (.int .i64 (-1)),_)] [(-1:Int)] rfl rfl cH (.cons rfl .int .nil) rfl rfl) ?_;obtain⟨zz,E,h⟩:=aa h;refine fr 1 ?_;refine cz rfl rfl rfl (bi rfl rfl cH (ap E)) ⟨rfl,rfl,trivial⟩ λX=>?_;refine aq (aG (bn ?_));exact jz (X,y4.1++[(-1:Int)]) h [1,0]
   .refine ae (mq ?_);obtain⟨O,y,h⟩:=aa h;refine jb (bh rfl y) ?_;refine aq (nl ?_);exact jz (z7,(x6,O)) h [0,1]
  .refine xa ?_;exact jz (z5,y4.1) h [0,1]
 .
  refine sr (mq ?_);refine fr 1 ?_;refine eQ (fy [5,26] ⟨rfl,rfl,trivial⟩) ?_;refine bf rfl rfl rfl (ge (t:=Tl) [(.tmp 26,_)] [x2] rfl rfl lS (.cons rfl .rep .nil) rfl rfl) ⟨rfl,trivial⟩ λU=>?_;refine aq (nt ?_);refine aC (Z:=Value) (α:=(List (List Int))) (λj s=>[(7,.eq j)]) (λj s=>[.sl j 28 Tl s]) h (λK h=>?_) (λj s h=>?_)
  .refine sr (cq (nt (ah ?_)));refine aE (λe c=>[(2,Pt b1),(7,.eq e),(8,I c.2)]) (λe c=>[.obj b1 25 (.rep am a0),.sl e 28 Tl c.1]) (gQ k a0) k U ([x2],0) (λ_=>rfl) h (SE.fin [1,0] ⟨rfl,rfl,rfl,trivial⟩ rfl) (λn e c h=>?_);unfold gQ at h;refine ai (sr (mq ?_));refine fl bW ?_;refine lo fq ?_;refine ol pq ?_;refine jb (bj rfl) ?_;refine nt (ci h (λh=>?_) (λh=>?_))
   .refine sk (ai (ah (bu ?_)));refine dm ?_;refine ea 0 (ao rfl cY (oM) rfl) ?_;refine dm ?_;refine dm ?_;refine dm ?_;obtain⟨M,l,h⟩:=aa h;refine eb 1 (cP (t:=Tl) rfl nk ew l) ?_;refine ea 1 (iv (i:=Int.toNat c.2) (off:=0) rfl ew (λ_=>rfl) rfl (dV l).2.2 rfl) ?_;obtain⟨u,F,h⟩:=aa h;refine dc (au [.tmp 36,.tmp 37,.tmp 41] rfl rfl Wh rfl (Bz k a0 c.2 M u F)) ?_;refine da (aR (t:=Tl) [(.tmp 42,_)] [u] rfl rfl lS (.cons rfl .rep .nil) rfl rfl) ?_;refine df bY ?_;obtain⟨qt,D,h⟩:=aa h;refine fr 1 ?_;refine cz rfl rfl rfl (bi rfl rfl lS (ap D)) ⟨rfl,rfl,trivial⟩ λQ=>?_;refine aq (aG (aI (tn (ae ?_))));refine mq ?_;obtain⟨J,x,h⟩:=aa h;refine jb (bh rfl x) ?_;refine aq (nl ?_);exact jz (Q,(c.1++[u],J)) h [1,0]
   .refine xa ?_;exact jz (e,c.1) h [1]
  .refine sr (mq ?_);refine aq (nt (aD ?_));refine bv (fy [4,7,45] ⟨rfl,rfl,rfl,trivial⟩) ?_;cases h;exact ra
def iI(k:Nat)(a0:Int)(a1:(List Int))(self:Int->(List Int)->Option ((List (List Int)))):Nat->((List (List Int))×Int)->Option (List (List Int))
 |0,_=>none
 |n+1,y9=>
  if y9.2 < a0 then((bV (bb (length ([]:(List Int))+length a1))).bind λ_=>
  (bV (bb (length (([]:(List Int))++a1)+length [y9.2]))).bind λ_=>
  (self a0 ((([]:(List Int))++a1)++[y9.2])).bind λc=>
  (bV (bb (length y9.1+length c))).bind λ_=>
  (ck (y9.2+1)).bind λe=>
  iI k a0 a1 self n (y9.1++c,e)) else(some y9.1)
def lT(k:Nat):Nat->Int->(List Int)->Option ((List (List Int)))
 |0,_,_=>none
 |m0+1,a0,a1=>
  ((if 0 < (a1.length:Int) then((ck ((a1.length:Int) - 1)).bind λx4=>
  (aH a1 x4).bind λx5=>
  (ck (x5+1)).bind λx6=>
  some x6) else(some 0)):Option (Int)).bind λx2=>
  ((iI k a0 a1 (lT k m0) k ([a1],x2)):Option ((List (List Int)))).bind λx7=>
  some x7
theorem Ea(k:Nat):
 ∀(n:Nat) (a0:Int) (a1:(List Int)) (r:(List (List Int))),lT k n a0 a1=some r->cX Tryz.prog 89 [I a0,.rep Tl a1] ([]) (λ_:Unit=>(bz [.rep (.slice Tl) r],[])):=by
 intro n
 induction n with
 |zero=>intro a0 a1 r h;cases h
 |succ m0 ih=>
  intro a0 a1 r h;rw [lT] at h;replace h:=aW h;refine cX.of 37 Tryz.func89 rfl Tryz.ntmps89 rfl λS w0=>?_;refine sr (cq (nt (sr ?_)));refine mq ?_;refine bf rfl rfl rfl (ge (t:=Tl) [(.tmp 8,_)] [a1] rfl rfl lS (.cons rfl .rep .nil) rfl rfl) ⟨rfl,trivial⟩ λv1=>?_;refine aq (nt (sr ?_));refine cq (nt ?_);refine aC (Z:=Unit) (α:=Int) (λz3 x2=>[(0,I a0),(1,.rep Tl a1),(5,.eq v1),(6,I x2)]) (λz3 x2=>[.sl v1 28 Tl [a1]]) h (λK h=>?_) (λz3 x2 h=>?_)
  .refine sr (mq ?_);refine ol fD ?_;refine jb (iM rfl) ?_;refine nt (ci h (λh=>?_) (λh=>?_))
   .refine ae ?_;iterate 2 refine mq ?_
    refine ol fD ?_;obtain⟨x4,J,h⟩:=aa h;refine jb (dR rfl J) ?_;obtain⟨x5,F,h⟩:=aa h;refine jb (ay (t:=Ti) rfl fD bJ F) ?_;refine ja (ak (t:=Ti) rfl bJ rfl) ?_;obtain⟨x6,E,h⟩:=aa h;refine jb (bh rfl E) ?_;refine aq (nl ?_);exact jz ((),x6) h [0]
   .refine ba (ax ?_);exact jz ((),0) h [0]
  .refine aC (Z:=Value) (α:=(List (List Int))) (λz8 x7=>[(5,.eq z8)]) (λz8 x7=>[.sl z8 28 Tl x7]) h (λK h=>?_) (λz8 x7 h=>?_)
   .refine sr (mq ?_);refine aq (nt (ah ?_));refine aE (λc y9=>[(0,I a0),(1,.rep Tl a1),(5,.eq c),(7,I y9.2)]) (λc y9=>[.sl c 28 Tl y9.1]) (iI k a0 a1 (lT k m0)) k v1 ([a1],x2) (λ_=>rfl) h (SE.fin [0] ⟨rfl,rfl,rfl,rfl,trivial⟩ rfl) (λn c y9 h=>?_);unfold iI at h;refine ai (sr ?_);iterate 2 refine mq ?_
    refine jb (bj rfl) ?_;refine nt (ci h (λh=>?_) (λh=>?_))
    .refine sk (ai (ah (ae ?_)));iterate 2 refine mq ?_
     refine bf rfl rfl rfl (ge (t:=Ti) [] ([]:(List Int)) rfl rfl cH .nil rfl rfl) trivial λQ=>?_;refine mq ?_;obtain⟨Y,u,h⟩:=aa h;refine cz rfl rfl rfl (bi rfl rfl cH (ap u)) ⟨rfl,rfl,trivial⟩ λO=>?_;refine mq ?_;refine ja (aR (t:=Ti) [(.tmp 31,_)] [y9.2] rfl rfl cH (.cons rfl .int .nil) rfl rfl) ?_;obtain⟨X,s,h⟩:=aa h;refine cz rfl rfl rfl (bi rfl rfl cH (ap s)) ⟨rfl,rfl,trivial⟩ λM=>?_;refine eQ (fy [33] ⟨rfl,trivial⟩) ?_;obtain⟨e,x,h⟩:=aa h;refine jb (au [.tmp 27,.tmp 33] rfl rfl Uk rfl (ih a0 ((([]:(List Int))++a1)++[y9.2]) e x)) ?_;obtain⟨U,l,h⟩:=aa h;refine cz rfl rfl rfl (bi rfl rfl lS (ap l)) ⟨rfl,rfl,trivial⟩ λD=>?_;refine aq (aG (aI (tn (ae ?_))));refine mq ?_;obtain⟨y,j,h⟩:=aa h;refine jb (bh rfl j) ?_;refine aq (nl ?_);exact jz (D,(y9.1++e,y)) h [0]
    .refine xa ?_;exact jz (c,y9.1) h [0]
   .refine sr (mq ?_);refine aq (nt (aD ?_));refine bv (fy [4,5,36] ⟨rfl,rfl,rfl,trivial⟩) ?_;cases h;exact ra
def oe(k:Nat)(a0:ab)(a1:(List (List Int)))(a2:aQ):Option Bool:=
 (aH a1 a2.2.1).bind λx3=>
 (aH x3 a2.1).bind λx4=>
 some (decide (a2.2.2=(decide (a0.2.2.1≤x4))))
theorem zK(k:Nat)(a0:ab)(a1:(List (List Int)))(a2:aQ)(r:Bool)(h:oe k a0 a1 a2=some r):
 cX Tryz.prog 90 [.rep am a0,.rep (.slice Tl) a1,.rep aL a2] [] (λ_:Unit=>(bz [.eq (.bool r)],[])):=by
 unfold oe at h
 replace h:=aW h
 refine cX.of 22 Tryz.func90 rfl Tryz.ntmps90 rfl λS w0=>?_
 refine sr ?_
 refine bx λb1=>?_
 refine bx λb2=>?_
 refine cq ?_
 refine nt ?_
 refine ai ?_
 refine bu ?_
 refine da (av rfl KH) ?_
 refine ea 0 (ao rfl W3 jQ rfl) ?_
 refine dm ?_
 refine da (av rfl Ak) ?_
 refine ea 0 (ao rfl bJ jQ rfl) ?_
 obtain⟨x3,e,h⟩:=aa h
 refine db (ay (t:=Tl) rfl nk ew e) ?_
 refine da (ak (t:=Tl) rfl ew rfl) ?_
 refine da (av rfl Am) ?_
 refine ea 0 (ao rfl bJ jQ rfl) ?_
 obtain⟨x4,c,h⟩:=aa h
 refine db (ay (t:=Ti) rfl fD bJ c) ?_
 refine da (ak (t:=Ti) rfl bJ rfl) ?_
 refine da (av rfl so) ?_
 refine ea 1 (ao rfl bJ jQ rfl) ?_
 refine db (gV rfl) ?_
 refine df bY ?_
 refine jb (QQ rfl U4) ?_
 refine aq ?_
 refine nt ?_
 refine aD ?_
 cases h
 exact ra
def di(k:Nat)(a0:ab)(a1:(List Int))(e:(List (List Int))):Nat->(Bool×Int)->Option Bool
 |0,_=>none
 |n+1,c=>
  if c.2 < (a0.2.2.2.2.2.length:Int) then(((if c.1=true then((ny k a1 c.2).bind λs=>
  if s=true then(some true) else((aH a0.2.2.2.2.2 c.2).bind λj=>
  (oe k a0 e j).bind λr=>
  some r)) else(some false)):Option (Bool)).bind λl=>
  (ck (c.2+1)).bind λh=>
  di k a0 a1 e n (l,h)) else(some c.1)
def dH(k:Nat)(a0:ab)(a1:(List Int))(r2:(List (List Int))):Nat->((List (List Int))×Int)->Option (List (List Int))
 |0,_=>none
 |n+1,y5=>
  if y5.2 < (r2.length:Int) then((((aH r2 y5.2).bind λx9=>
  (mI k a0 x9).bind λj=>
  ((di k a0 a1 j k (true,0)):Option (Bool)).bind λh=>
  if h=true then((aH r2 y5.2).bind λc=>
  (bV (bb (length y5.1+length [c]))).bind λ_=>
  some (y5.1++[c])) else(some y5.1)):Option ((List (List Int)))).bind λx7=>
  (ck (y5.2+1)).bind λe=>
  dH k a0 a1 r2 n (x7,e)) else(some y5.1)
def jk(k:Nat)(a0:ab)(a1:(List Int)):Option (List (List Int)):=
 (lT k k a0.1 ([]:(List Int))).bind λr2=>
 ((dH k a0 a1 r2 k (([]:(List (List Int))),0)):Option ((List (List Int)))).bind λx3=>
 some x3
theorem tY(k:Nat)(a0:ab)(a1:(List Int))(r:(List (List Int)))(h:jk k a0 a1=some r):
 cX Tryz.prog 67 [.rep am a0,.rep Tl a1] [] (λ_:Unit=>(bz [.rep (.slice Tl) r],[])):=by
 unfold jk at h
 replace h:=aW h
 refine cX.of 58 Tryz.func67 rfl Tryz.ntmps67 rfl λS w0=>?_
 refine sr ?_
 refine bx λb1=>?_
 refine cq ?_
 refine nt ?_
 refine sr ?_
 refine cq ?_
 refine nt ?_
 refine sr ?_
 refine fl fx ?_
 refine lo bJ ?_
 obtain⟨r2,Xx,h⟩:=aa h
 have Xy:=Ea k k a0.1 ([]:(List Int)) r2 Xx
 refine jb (bX (N:=[(.tmp 12,I a0.1),(.const (.slice none 0 0),.eq (.slice none 0 0))]) (au [.tmp 12,.const (.slice none 0 0)] rfl rfl Uk rfl Xy) λ_ _ _ hn=>⟨hn.1,(aM (t:=Tl) (x:=([]:(List Int))) .nil rfl rfl hn.2.1),trivial⟩) ?_
 refine aq ?_
 refine nt ?_
 refine aC (Z:=Value) (α:=(List (List Int))) (λz4 x3=>[(5,.eq z4)]) (λz4 x3=>[.sl z4 28 Tl x3]) h (λK h=>?_) (λz4 x3 h=>?_)
 .
  refine sr (cq (nt (ah ?_)));refine gi (SE.nil 28 Tl) ?_;refine aE (λz6 y5=>[(1,.rep Tl a1),(2,Pt b1),(5,.eq z6),(6,.rep (.slice Tl) r2),(7,I y5.2)]) (λz6 y5=>[.obj b1 25 (.rep am a0),.sl z6 28 Tl y5.1]) (dH k a0 a1 r2) k (.slice none 0 0) (([]:(List (List Int))),0) (λ_=>rfl) h (SE.fin [1,0] ⟨rfl,rfl,rfl,rfl,rfl,trivial⟩ rfl) (λn z6 y5 h=>?_);unfold dH at h;refine ai (sr ?_);iterate 2 refine mq ?_
  refine ol nk ?_;refine jb (bj rfl) ?_;refine nt (ci h (λh=>?_) (λh=>?_))
  .refine sk (aC (Z:=Value) (α:=(List (List Int))) (λz8 x7=>[(1,.rep Tl a1),(2,Pt b1),(5,.eq z8),(6,.rep (.slice Tl) r2),(7,I y5.2)]) (λz8 x7=>[.obj b1 25 (.rep am a0),.sl z8 28 Tl x7]) h (λK h=>?_) (λz8 x7 h=>?_))
   .refine ah (ai (bu ?_));refine ea 0 (ao rfl cY (oM) rfl) ?_;refine dm ?_;refine dm ?_;obtain⟨x9,Xw,h⟩:=aa h;refine db (ay (t:=Tl) rfl nk ew Xw) ?_;refine da (ak (t:=Tl) rfl ew rfl) ?_;refine df bY ?_;obtain⟨e,Y,h⟩:=aa h;refine jb (au [.tmp 20,.tmp 24] rfl rfl Rm rfl (pN k a0 x9 e Y)) ?_;refine aq ?_;refine cq (nt ?_);refine aC (Z:=Unit) (α:=Bool) (λy l=>[(1,.rep Tl a1),(2,Pt b1),(5,.eq z6),(6,.rep (.slice Tl) r2),(7,I y5.2),(9,.eq (.bool l))]) (λy l=>[.obj b1 25 (.rep am a0),.sl z6 28 Tl y5.1]) h (λK h=>?_) (λy l h=>?_)
    .refine sr (cq (nt (ah ?_)));refine aE (λu c=>[(1,.rep Tl a1),(2,Pt b1),(5,.eq z6),(6,.rep (.slice Tl) r2),(7,I y5.2),(8,.rep (.slice Tl) e),(9,.eq (.bool c.1)),(10,I c.2)]) (λu c=>[.obj b1 25 (.rep am a0),.sl z6 28 Tl y5.1]) (di k a0 a1 e) k () (true,0) (λ_=>rfl) h (SE.fin [0,1] ⟨rfl,rfl,rfl,rfl,rfl,rfl,rfl,rfl,trivial⟩ rfl) (λn u c h=>?_);unfold di at h;refine ai (sr (mq ?_));refine fl fH ?_;refine lo nh ?_;refine ol DI ?_;refine jb (bj rfl) ?_;refine nt (ci h (λh=>?_) (λh=>?_))
     .refine sk (aC (Z:=Unit) (α:=Bool) (λs j=>[(1,.rep Tl a1),(2,Pt b1),(5,.eq z6),(6,.rep (.slice Tl) r2),(7,I y5.2),(8,.rep (.slice Tl) e),(9,.eq (.bool j)),(10,I c.2)]) (λs j=>[.obj b1 25 (.rep am a0),.sl z6 28 Tl y5.1]) h (λK h=>?_) (λs j h=>?_))
      .refine ah (bu ?_);refine dm ?_;refine jH rfl rfl rfl (aK rfl) ⟨rfl,trivial⟩ (λhb=>?_) (λhb=>?_)
       .replace h:=dO (Ig hb) h;refine aJ rfl rfl rfl rfl rfl (aK rfl) ⟨rfl,rfl,trivial⟩ ?_;refine aJ rfl rfl rfl rfl rfl (aK rfl) ⟨rfl,rfl,trivial⟩ ?_;obtain⟨Xv,X,h⟩:=aa h;refine aJ rfl rfl rfl rfl rfl (au [.tmp 35,.tmp 36] rfl rfl Of rfl (oI k a1 c.2 Xv X)) ⟨rfl,rfl,rfl,trivial⟩ ?_;refine Dt rfl rfl rfl rfl rfl (aK rfl) ⟨rfl,rfl,trivial⟩ (λhb=>?_) (λhb=>?_)
        .replace h:=dO (Ig hb) h;iterate 7 refine dg ?_
         refine df bY ?_;refine gn ?_;refine gb (gq rfl) ?_;refine pt ?_;refine aq (aG (bn ?_));exact jz ((),true) h [0,1]
        .replace h:=bZ (Ih hb) h;refine iD 0 rfl rfl rfl rfl rfl rfl (ao rfl cY (oM) rfl) ⟨rfl,rfl,trivial⟩ ?_;refine aJ rfl rfl rfl rfl rfl (aK rfl) ⟨rfl,rfl,trivial⟩ ?_;refine aJ rfl rfl rfl rfl rfl (av rfl fH) ⟨rfl,rfl,trivial⟩ ?_;refine iD 0 rfl rfl rfl rfl rfl rfl (ao rfl nh jQ rfl) ⟨rfl,rfl,trivial⟩ ?_;refine aJ rfl rfl rfl rfl rfl (aK rfl) ⟨rfl,rfl,trivial⟩ ?_;obtain⟨qt,O,h⟩:=aa h;refine aJ rfl rfl rfl rfl rfl (ay (t:=aL) rfl DI nN O) ⟨rfl,rfl,rfl,trivial⟩ ?_;refine aJ rfl rfl rfl rfl rfl (ak (t:=aL) rfl nN rfl) ⟨rfl,rfl,trivial⟩ ?_;refine df bY ?_;obtain⟨E,U,h⟩:=aa h;refine gc (au [.tmp 39,.tmp 40,.tmp 45] rfl rfl V5 rfl (zK k a0 e qt E U)) ?_;refine gb (mK rfl) ?_;refine pt ?_;refine aq (aG (bn ?_));exact jz ((),E) h [0,1]
       .replace h:=bZ (Ih hb) h;iterate 4 refine dg ?_
        refine du ?_;refine du ?_;refine du ?_;refine du ?_;refine du ?_;refine du ?_;refine du ?_;refine df bY ?_;refine gu ?_;refine gn ?_;refine pf ?_;refine aq (aG (bn ?_));exact jz ((),false) h [0,1]
      .refine ae (mq ?_);obtain⟨mw,M,h⟩:=aa h;refine jb (bh rfl M) ?_;refine aq (nl ?_);exact jz ((),(j,mw)) h [0,1]
     .refine xa ?_;exact jz ((),c.1) h [0,1]
    .refine sr (mq (nt ?_));refine cv h (λh=>?_) (λh=>?_)
     .refine ae ?_;iterate 3 refine mq ?_
      obtain⟨D,J,h⟩:=aa h;refine jb (ay (t:=Tl) rfl nk ew J) ?_;refine ja (ak (t:=Tl) rfl ew rfl) ?_;refine ja (aR (t:=Tl) [(.tmp 54,_)] [D] rfl rfl lS (.cons rfl .rep .nil) rfl rfl) ?_;obtain⟨Xz,Q,h⟩:=aa h;refine fr 1 ?_;refine cz rfl rfl rfl (bi rfl rfl lS (ap Q)) ⟨rfl,rfl,trivial⟩ λzz=>?_;refine aq (aG (bn ?_));exact jz (zz,y5.1++[D]) h [1,0]
     .refine ba (bn ?_);exact jz (z6,y5.1) h [0,1]
   .refine ae (mq ?_);obtain⟨mc,F,h⟩:=aa h;refine jb (bh rfl F) ?_;refine aq (nl ?_);exact jz (z8,(x7,mc)) h [0,1]
  .refine xa ?_;exact jz (z6,y5.1) h [1]
 .
  refine sr (mq ?_);refine aq (nt (aD ?_));refine bv (fy [4,5,57] ⟨rfl,rfl,rfl,trivial⟩) ?_;cases h;exact ra
def mF(k:Nat)(a0:ab)(a1:Bool):Option ((List (List Int))×Int):=
 (me k a0).bind λr2=>
 if¬(r2=0) then(some (([]:(List (List Int))),r2)) else(if¬(a1=true) then(some (([]:(List (List Int))),3)) else((jk k a0 ([]:(List Int))).bind λr3=>
 if(r3.length:Int)=0 then(some (([]:(List (List Int))),9)) else(some (r3,0))))
theorem xU(k:Nat)(a0:ab)(a1:Bool)(r:(List (List Int))×Int)(h:mF k a0 a1=some r):
 cX Tryz.prog 35 [.rep am a0,.eq (.bool a1)] [] (λ_:Unit=>(bz [.rep (.slice Tl) r.1,I r.2],[])):=by
 unfold mF at h
 replace h:=aW h
 refine cX.of 21 Tryz.func35 rfl Tryz.ntmps35 rfl λS w0=>?_
 refine sr ?_
 refine bx λb1=>?_
 refine cq ?_
 refine cq ?_
 refine nt ?_
 refine ai ?_
 refine sr ?_
 refine lo cY ?_
 obtain⟨r2,e,h⟩:=aa h
 have j:=sZ k a0 r2 e
 refine ja (au [.tmp 8] rfl rfl Uw rfl j) ?_
 refine aq ?_
 refine nt ?_
 refine sr ?_
 refine mq ?_
 refine jb (dZ rfl) ?_
 refine nt ?_
 refine cn h (λh=>?_) (λh=>?_)
 .
  refine sr (mq ?_);refine cq ?_;refine aq (nt (rx ?_));refine bv (dA (t:=(.slice Tl)) (x:=([]:(List (List Int)))) 4 rfl .nil rfl rfl) ?_;cases h;exact rb
 .
  refine sk (ai (sr (mq ?_)));refine ja (eS rfl) ?_;refine nt (cw h (λh=>?_) (λh=>?_))
  .refine sr (cq ?_);refine cq (nt (rx ?_));refine bv (dA (t:=(.slice Tl)) (x:=([]:(List (List Int)))) 4 rfl .nil rfl rfl) ?_;cases h;exact rb
  .refine sk (sr (lo cY ?_));obtain⟨r3,c,h⟩:=aa h;refine jb (bX (N:=[(.tmp 15,.rep am a0),(.const (.slice none 0 0),.eq (.slice none 0 0))]) (au [.tmp 15,.const (.slice none 0 0)] rfl rfl Wi rfl (tY k a0 ([]:(List Int)) r3 c)) λ_ _ _ hn=>⟨hn.1,(aM (t:=Tl) (x:=([]:(List Int))) .nil rfl rfl hn.2.1),trivial⟩) ?_;refine aq (nt (ai (sr ?_)));refine mq ?_;refine ol nk ?_;refine jb (jO rfl) ?_;refine nt (ci h (λh=>?_) (λh=>?_))
   .refine sr (cq ?_);refine cq (nt (rx ?_));refine bv (dA (t:=(.slice Tl)) (x:=([]:(List (List Int)))) 4 rfl .nil rfl rfl) ?_;cases h;exact rb
   .refine sk (sr (mq ?_));refine aq ?_;refine cq (nt (aD ?_));cases h;exact rb
def iY(k:Nat)(a0:(List (List Int)))(a1:Int):Nat->Int->Option (Except Int Unit)
 |0,_=>none
 |n+1,y3=>
  if y3 < (a0.length:Int) then((aH a0 y3).bind λx5=>
  (aH x5 a1).bind λx6=>
  if 0≤x6 then(some (.error y3)) else((ck (y3+1)).bind λx7=>
  iY k a0 a1 n x7)) else(some (.ok ()))
def ma(k:Nat)(a0:(List (List Int)))(a1:Int):Option Int:=
 bE (α:=Unit) (iY k a0 a1 k 0) (some) λ_=>
 some (-1:Int)
theorem sX(k:Nat)(a0:(List (List Int)))(a1:Int)(r:Int)(h:ma k a0 a1=some r):
 cX Tryz.prog 38 [.rep (.slice Tl) a0,I a1] [] (λ_:Unit=>(bz [I r],[])):=by
 unfold ma at h
 replace h:=aW h
 refine cX.of 21 Tryz.func38 rfl Tryz.ntmps38 rfl λS w0=>?_
 refine sr ?_
 refine cq ?_
 refine nt ?_
 refine cO (Z:=Unit) (α:=Unit) (λz2 x1=>[]) (λz2 x1=>[]) (λe=>e=r) h (λe h=>Option.some.inj h) (λK hR h=>?_) (λz2 x1 h=>?_)
 .
  refine sr (cq (nt (ah ?_)));refine aE (λz4 y3=>[(0,.rep (.slice Tl) a0),(1,I a1),(5,I y3)]) (λz4 y3=>[]) (iY k a0 a1) k () 0 (λ_=>rfl) h (SE.fin [] ⟨rfl,rfl,rfl,trivial⟩ rfl) (λn z4 y3 h=>?_);unfold iY at h;refine ai (sr ?_);iterate 2 refine mq ?_
  refine ol nk ?_;refine jb (bj rfl) ?_;refine nt (ci h (λh=>?_) (λh=>?_))
  .refine sk (ai (ah (sr ?_)));iterate 2 refine mq ?_
   obtain⟨x5,l,h⟩:=aa h;refine jb (ay (t:=Tl) rfl nk ew l) ?_;refine ja (ak (t:=Tl) rfl ew rfl) ?_;refine mq ?_;obtain⟨x6,j,h⟩:=aa h;refine jb (ay (t:=Ti) rfl fD bJ j) ?_;refine ja (ak (t:=Ti) rfl bJ rfl) ?_;refine jb (gV rfl) ?_;refine nt (ci h (λh=>?_) (λh=>?_))
   .refine sr (mq ?_);refine aq (nt (aD (br (aX (bg ?_)))));obtain rfl:=hR _ h;exact ra
   .refine ba (aI (tn (ae (mq ?_))));obtain⟨x7,c,h⟩:=aa h;refine jb (bh rfl c) ?_;refine aq (nl ?_);exact jz ((),x7) h []
  .refine xa ?_;exact jz ((),()) h []
 .
  refine sr (cq (nt (aD ?_)));cases h;exact ra
def dQ(k:Nat)(r3:(List (List Int))×Int)(y6:(List Int)×Int):Nat->(Bool×Int)->Option Bool
 |0,_=>none
 |n+1,c=>
  if c.2 < (r3.1.length:Int) then(((if c.1=true then(some true) else((aH r3.1 c.2).bind λh=>
  (ny k h y6.2).bind λl=>
  some l)):Option (Bool)).bind λj=>
  (ck (c.2+1)).bind λe=>
  dQ k r3 y6 n (j,e)) else(some c.1)
def eM(k:Nat)(a0:ab)(a1:Int)(r3:(List (List Int))×Int):Nat->((List Int)×Int)->Option (List Int)
 |0,_=>none
 |n+1,y6=>
  if y6.2 < a0.1 then(((((dQ k r3 y6 k (false,0)):Option (Bool)).bind λh=>
  ((if h=true then((mI k a0 [y6.2]).bind λl=>
  (ma k l a1).bind λj=>
  some (decide (0≤j))) else(some false)):Option (Bool)).bind λe=>
  if e=true then((bV (bb (length y6.1+length [y6.2]))).bind λ_=>
  some (y6.1++[y6.2])) else(some y6.1)):Option ((List Int))).bind λx8=>
  (ck (y6.2+1)).bind λc=>
  eM k a0 a1 r3 n (x8,c)) else(some y6.1)
def k9(k:Nat)(a0:ab)(a1:Int):Option ((List Int)×Int):=
 (dz k a0 a1).bind λr2=>
 (mF k a0 r2).bind λr3=>
 if¬(r3.2=0) then(some (([]:(List Int)),r3.2)) else(((eM k a0 a1 r3 k (([]:(List Int)),0)):Option ((List Int))).bind λx4=>
 some (x4,0))
theorem wi(k:Nat)(a0:ab)(a1:Int)(r:(List Int)×Int)(h:k9 k a0 a1=some r):
 cX Tryz.prog 14 [.rep am a0,I a1] [] (λ_:Unit=>(bz [.rep Tl r.1,I r.2],[])):=by
 unfold k9 at h
 replace h:=aW h
 refine cX.of 59 Tryz.func14 rfl Tryz.ntmps14 rfl λS w0=>?_
 refine sr ?_
 refine bx λb1=>?_
 refine cq ?_
 refine cq ?_
 refine nt ?_
 refine ai ?_
 refine bu ?_
 refine ea 0 (ao rfl cY (oM) rfl) ?_
 refine ea 0 (ao rfl cY (oM) rfl) ?_
 refine dm ?_
 obtain⟨r2,Xy,h⟩:=aa h
 have XA:=gp k a0 a1 r2 Xy
 refine db (au [.tmp 14,.tmp 15] rfl rfl KO rfl XA) ?_
 obtain⟨r3,Xx,h⟩:=aa h
 have Xz:=xU k a0 r2 r3 Xx
 refine db (au [.tmp 13,.tmp 16] rfl rfl Wz rfl Xz) ?_
 refine dm ?_
 refine da (eA rfl rfl) ?_
 refine da (eA rfl rfl) ?_
 refine da (jl rfl) ?_
 refine df bY ?_
 refine aq ?_
 refine nt ?_
 refine ai ?_
 refine sr ?_
 refine mq ?_
 refine jb (dZ rfl) ?_
 refine nt ?_
 refine cn h (λh=>?_) (λh=>?_)
 .
  refine sr (mq ?_);refine cq ?_;refine aq (nt (rx ?_));refine bv (dA (t:=Tl) (x:=([]:(List Int))) 4 rfl .nil rfl rfl) ?_;cases h;exact rb
 .
  refine sk (sr (cq (nt ?_)));refine aC (Z:=Value) (α:=(List Int)) (λz5 x4=>[(8,.eq z5)]) (λz5 x4=>[.sl z5 3 Ti x4]) h (λK h=>?_) (λz5 x4 h=>?_)
  .refine sr (cq (nt (ah ?_)));refine gi (SE.nil 3 Ti) ?_;refine aE (λz7 y6=>[(1,I a1),(2,Pt b1),(6,.rep (.slice Tl) r3.1),(8,.eq z7),(9,I y6.2)]) (λz7 y6=>[.obj b1 25 (.rep am a0),.sl z7 3 Ti y6.1]) (eM k a0 a1 r3) k (.slice none 0 0) (([]:(List Int)),0) (λ_=>rfl) h (SE.fin [1,0] ⟨rfl,rfl,rfl,rfl,rfl,trivial⟩ rfl) (λn z7 y6 h=>?_);unfold eM at h;refine ai (sr (mq ?_));refine fl fx ?_;refine lo bJ ?_;refine jb (bj rfl) ?_;refine nt (ci h (λh=>?_) (λh=>?_))
   .refine sk (aC (Z:=Value) (α:=(List Int)) (λz9 x8=>[(1,I a1),(2,Pt b1),(6,.rep (.slice Tl) r3.1),(8,.eq z9),(9,I y6.2)]) (λz9 x8=>[.obj b1 25 (.rep am a0),.sl z9 3 Ti x8]) h (λK h=>?_) (λz9 x8 h=>?_))
    .refine ah (sr (cq (nt ?_)));refine aC (Z:=Unit) (α:=Bool) (λE l=>[(1,I a1),(2,Pt b1),(6,.rep (.slice Tl) r3.1),(8,.eq z7),(9,I y6.2),(10,.eq (.bool l))]) (λE l=>[.obj b1 25 (.rep am a0),.sl z7 3 Ti y6.1]) h (λK h=>?_) (λE l h=>?_)
     .refine sr (cq (nt (ah ?_)));refine aE (λD c=>[(1,I a1),(2,Pt b1),(6,.rep (.slice Tl) r3.1),(8,.eq z7),(9,I y6.2),(10,.eq (.bool c.1)),(11,I c.2)]) (λD c=>[.obj b1 25 (.rep am a0),.sl z7 3 Ti y6.1]) (dQ k r3 y6) k () (false,0) (λ_=>rfl) h (SE.fin [0,1] ⟨rfl,rfl,rfl,rfl,rfl,rfl,rfl,trivial⟩ rfl) (λn D c h=>?_);unfold dQ at h;refine ai (sr ?_);iterate 2 refine mq ?_
      refine ol nk ?_;refine jb (bj rfl) ?_;refine nt (ci h (λh=>?_) (λh=>?_))
      .refine sk (aC (Z:=Unit) (α:=Bool) (λy e=>[(1,I a1),(2,Pt b1),(6,.rep (.slice Tl) r3.1),(8,.eq z7),(9,I y6.2),(10,.eq (.bool e)),(11,I c.2)]) (λy e=>[.obj b1 25 (.rep am a0),.sl z7 3 Ti y6.1]) h (λK h=>?_) (λy e h=>?_))
       .refine ah (ae ?_);iterate 2 refine mq ?_
        refine bU (s:=36) rfl (λhb=>?_) (λhb=>?_)
        .replace h:=dO (Ig hb) h;iterate 6 refine gn ?_
         refine pt ?_;refine aq (aG (bn ?_));exact jz ((),true) h [0,1]
        .replace h:=bZ (Ih hb) h;refine gm ?_;refine gm ?_;obtain⟨Xv,U,h⟩:=aa h;refine gb (ay (t:=Tl) rfl nk ew U) ?_;refine ga (ak (t:=Tl) rfl ew rfl) ?_;refine gm ?_;obtain⟨M,mw,h⟩:=aa h;refine gb (au [.tmp 40,.tmp 41] rfl rfl Of rfl (oI k Xv y6.2 M mw)) ?_;refine pf ?_;refine aq (aG (bn ?_));exact jz ((),M) h [0,1]
       .refine ae (mq ?_);obtain⟨zz,Q,h⟩:=aa h;refine jb (bh rfl Q) ?_;refine aq (nl ?_);exact jz ((),(e,zz)) h [0,1]
      .refine xa ?_;exact jz ((),c.1) h [0,1]
     .refine aC (Z:=Unit) (α:=Bool) (λu j=>[(1,I a1),(2,Pt b1),(6,.rep (.slice Tl) r3.1),(8,.eq z7),(9,I y6.2),(53,.eq (.bool j))]) (λu j=>[.obj b1 25 (.rep am a0),.sl z7 3 Ti y6.1]) h (λK h=>?_) (λu j h=>?_)
      .refine ae ?_;iterate 2 refine mq ?_
       refine bU (s:=45) rfl (λhb=>?_) (λhb=>?_)
       .replace h:=dO (Ig hb) h;refine fe rfl rfl rfl rfl rfl rfl (ao rfl cY (oM) rfl) ⟨rfl,trivial⟩ ?_;refine gm ?_;refine ga (aR (t:=Ti) [(.tmp 47,_)] [y6.2] rfl rfl cH (.cons rfl .int .nil) rfl rfl) ?_;obtain⟨J,mc,h⟩:=aa h;refine gb (au [.tmp 46,.tmp 48] rfl rfl Rm rfl (pN k a0 [y6.2] J mc)) ?_;refine gm ?_;obtain⟨F,Y,h⟩:=aa h;refine gb (au [.tmp 49,.tmp 50] rfl rfl Ux rfl (sX k J a1 F Y)) ?_;refine gb (gV rfl) ?_;refine pt (nl ?_);exact jz ((),decide (0≤F)) h [0,1]
       .replace h:=bZ (Ih hb) h;iterate 7 refine gn ?_
        refine pf (nl ?_);exact jz ((),false) h [0,1]
      .refine cv h (λh=>?_) (λh=>?_)
       .refine ae ?_;iterate 2 refine mq ?_
        refine ja (aR (t:=Ti) [(.tmp 55,_)] [y6.2] rfl rfl cH (.cons rfl .int .nil) rfl rfl) ?_;obtain⟨XB,X,h⟩:=aa h;refine fr 1 ?_;refine cz rfl rfl rfl (bi rfl rfl cH (ap X)) ⟨rfl,rfl,trivial⟩ λXw=>?_;refine aq (aG (bn ?_));exact jz (Xw,y6.1++[y6.2]) h [1,0]
       .refine ba (bn ?_);exact jz (z7,y6.1) h [0,1]
    .refine ae (mq ?_);obtain⟨qt,O,h⟩:=aa h;refine jb (bh rfl O) ?_;refine aq (nl ?_);exact jz (z9,(x8,qt)) h [0,1]
   .refine xa ?_;exact jz (z7,y6.1) h [1]
  .refine sr (mq ?_);refine aq ?_;refine cq (nt (aD ?_));refine bv (fy [4,8,58] ⟨rfl,rfl,rfl,trivial⟩) ?_;cases h;exact rb
def dq(k:Nat)(a0:ab)(a1:(List Int)):Nat->Int->Option (Except Int Unit)
 |0,_=>none
 |n+1,y4=>
  if y4 < (a1.length:Int) then((aH a1 y4).bind λx6=>
  (dz k a0 x6).bind λr7=>
  if¬(r7=true) then(some (.error 3)) else(((if 0 < y4 then((aH a1 y4).bind λj=>
  (ck (y4 - 1)).bind λh=>
  (aH a1 h).bind λe=>
  some (decide (j≤e))) else(some false)):Option (Bool)).bind λx8=>
  if x8=true then(some (.error 5)) else((ck (y4+1)).bind λc=>
  dq k a0 a1 n c))) else(some (.ok ()))
def iH(k:Nat)(a0:ab)(a1:(List Int)):Option Int:=
 bE (α:=Unit) (dq k a0 a1 k 0) (some) λ_=>
 some 0
theorem sY(k:Nat)(a0:ab)(a1:(List Int))(r:Int)(h:iH k a0 a1=some r):
 cX Tryz.prog 44 [.rep am a0,.rep Tl a1] [] (λ_:Unit=>(bz [I r],[])):=by
 unfold iH at h
 replace h:=aW h
 refine cX.of 33 Tryz.func44 rfl Tryz.ntmps44 rfl λS w0=>?_
 refine sr ?_
 refine bx λb1=>?_
 refine cq ?_
 refine nt ?_
 refine cO (Z:=Unit) (α:=Unit) (λz3 x2=>[]) (λz3 x2=>[]) (λe=>e=r) h (λe h=>Option.some.inj h) (λK hR h=>?_) (λz3 x2 h=>?_)
 .
  refine sr (cq (nt (ah ?_)));refine aE (λz5 y4=>[(1,.rep Tl a1),(2,Pt b1),(5,I y4)]) (λz5 y4=>[.obj b1 25 (.rep am a0)]) (dq k a0 a1) k () 0 (λ_=>rfl) h (SE.fin [0] ⟨rfl,rfl,rfl,trivial⟩ rfl) (λn z5 y4 h=>?_);unfold dq at h;refine ai (sr ?_);iterate 2 refine mq ?_
  refine ol fD ?_;refine jb (bj rfl) ?_;refine nt (ci h (λh=>?_) (λh=>?_))
  .refine sk (ai (ah (ai (ai (bu ?_)))));refine ea 0 (ao rfl cY (oM) rfl) ?_;refine dm ?_;refine dm ?_;obtain⟨x6,D,h⟩:=aa h;refine db (ay (t:=Ti) rfl fD bJ D) ?_;refine da (ak (t:=Ti) rfl bJ rfl) ?_;refine df bY ?_;obtain⟨r7,E,h⟩:=aa h;refine jb (au [.tmp 12,.tmp 16] rfl rfl KO rfl (gp k a0 x6 r7 E)) ?_;refine ja (eS rfl) ?_;refine nt (cw h (λh=>?_) (λh=>?_))
   .refine sr (cq (nt (rx (br (aX (bg ?_))))));obtain rfl:=hR _ h;exact ra
   .refine sk (aC (Z:=Unit) (α:=Bool) (λz9 x8=>[(1,.rep Tl a1),(2,Pt b1),(5,I y4),(32,.eq (.bool x8))]) (λz9 x8=>[.obj b1 25 (.rep am a0)]) h (λK h=>?_) (λz9 x8 h=>?_))
    .refine bu ?_;refine dm ?_;refine db (iM rfl) ?_;refine jH rfl rfl rfl (aK rfl) ⟨rfl,trivial⟩ (λhb=>?_) (λhb=>?_)
     .replace h:=dO (uE hb) h;refine aJ rfl rfl rfl rfl rfl (aK rfl) ⟨rfl,rfl,trivial⟩ ?_;refine aJ rfl rfl rfl rfl rfl (aK rfl) ⟨rfl,rfl,trivial⟩ ?_;obtain⟨y,s,h⟩:=aa h;refine aJ rfl rfl rfl rfl rfl (ay (t:=Ti) rfl fD bJ s) ⟨rfl,rfl,rfl,trivial⟩ ?_;refine aJ rfl rfl rfl rfl rfl (ak (t:=Ti) rfl bJ rfl) ⟨rfl,rfl,trivial⟩ ?_;refine aJ rfl rfl rfl rfl rfl (aK rfl) ⟨rfl,rfl,trivial⟩ ?_;refine aJ rfl rfl rfl rfl rfl (aK rfl) ⟨rfl,rfl,trivial⟩ ?_;obtain⟨F,l,h⟩:=aa h;refine aJ rfl rfl rfl rfl rfl (dR rfl l) ⟨rfl,rfl,rfl,trivial⟩ ?_;obtain⟨x,j,h⟩:=aa h;refine aJ rfl rfl rfl rfl rfl (ay (t:=Ti) rfl fD bJ j) ⟨rfl,rfl,rfl,trivial⟩ ?_;refine aJ rfl rfl rfl rfl rfl (ak (t:=Ti) rfl bJ rfl) ⟨rfl,rfl,trivial⟩ ?_;refine df bY ?_;refine gb (yK rfl) ?_;refine pt (nl ?_);exact jz ((),decide (y≤x)) h [0]
     .replace h:=bZ (uF hb) h;iterate 9 refine dg ?_
      refine df bY ?_;refine gn ?_;refine pf (nl ?_);exact jz ((),false) h [0]
    .refine cv h (λh=>?_) (λh=>?_)
     .refine sr (cq (nt (aD (br (aX (bg ?_))))));obtain rfl:=hR _ h;exact ra
     .refine ba (aI (tn (ae (mq ?_))));obtain⟨u,c,h⟩:=aa h;refine jb (bh rfl c) ?_;refine aq (nl ?_);exact jz ((),u) h [0]
  .refine xa ?_;exact jz ((),()) h []
 .
  refine sr (cq (nt (aD ?_)));cases h;exact ra
def fR(k:Nat)(r5:(List (List Int)))(y7:Int×Int×(List Int)):Nat->Int->Option Int
 |0,_=>none
 |n+1,c=>
  ((if 0 < c then((ck (c - 1)).bind λl=>
  (aH r5 l).bind λj=>
  (aH j y7.1).bind λh=>
  some (decide (0≤h))) else(some false)):Option (Bool)).bind λr=>
  if r=true then((ck (c - 1)).bind λe=>
  fR k r5 y7 n e) else(some c)
def eY(k:Nat)(a0:ab)(r5:(List (List Int)))(h:Int)(e:(List Int)×Bool):Nat->(Int×Int)->Option Int
 |0,_=>none
 |n+1,c=>
  if c.2 < (e.1.length:Int) then((((((ck (h - 1)).bind λy=>
  (aH r5 y).bind λx=>
  (aH e.1 c.2).bind λu=>
  (aH x u).bind λs=>
  if a0.2.1≤s then(if c.1 < 0 then(some true) else((aH e.1 c.2).bind λr=>
  some (decide (r < c.1)))) else(some false)):Option (Bool)).bind λD=>
  if D=true then((aH e.1 c.2).bind λl=>
  some l) else(some c.1)):Option (Int)).bind λE=>
  (ck (c.2+1)).bind λj=>
  eY k a0 r5 h e n (E,j)) else(some c.1)
def ia(k:Nat)(a0:ab)(r5:(List (List Int))):Nat->(Int×Int×(List Int))->Option ((List Int)×Int)
 |0,_=>none
 |n+1,y7=>
  bE (α:=Int×Int×(List Int)) (((fR k r5 y7 k y7.2.1):Option (Int)).bind λc=>
  if c=0 then(some (.error (y7.2.2,0))) else((ck (c - 1)).bind λj=>
  (jI k a0 j y7.1).bind λl=>
  ((eY k a0 r5 c l k ((-1:Int),0)):Option (Int)).bind λe=>
  (ck (c - 1)).bind λh=>
  (bV (bb (length [e]+length y7.2.2))).bind λ_=>
  some (.ok (e,h,[e]++y7.2.2)))) (some) λx9=>
  ia k a0 r5 n (x9.1,x9.2.1,x9.2.2)
def og(k:Nat)(a0:ab)(a1:(List Int))(a2:Int):Option ((List Int)×Int):=
 (me k a0).bind λr2=>
 if¬(r2=0) then(some (([]:(List Int)),r2)) else((iH k a0 a1).bind λr3=>
 if¬(r3=0) then(some (([]:(List Int)),r3)) else((dz k a0 a2).bind λr4=>
 if¬(r4=true) then(some (([]:(List Int)),3)) else((mI k a0 a1).bind λr5=>
 (ma k r5 a2).bind λr6=>
 if r6 < 0 then(some (([]:(List Int)),11)) else(ia k a0 r5 k (a2,r6,[a2])))))
theorem zL(k:Nat)(a0:ab)(a1:(List Int))(a2:Int)(r:(List Int)×Int)(h:og k a0 a1 a2=some r):
 cX Tryz.prog 16 [.rep am a0,.rep Tl a1,I a2] [] (λ_:Unit=>(bz [.rep Tl r.1,I r.2],[])):=by
 unfold og at h
 replace h:=aW h
 refine cX.of 111 Tryz.func16 rfl Tryz.ntmps16 rfl λS w0=>?_
 refine sr ?_
 refine bx λb1=>?_
 refine cq ?_
 refine cq ?_
 refine nt ?_
 refine ai ?_
 refine sr ?_
 refine lo cY ?_
 obtain⟨r2,XT,h⟩:=aa h
 have XU:=sZ k a0 r2 XT
 refine ja (au [.tmp 17] rfl rfl Uw rfl XU) ?_
 refine aq ?_
 refine nt ?_
 refine sr ?_
 refine mq ?_
 refine jb (dZ rfl) ?_
 refine nt ?_
 refine cn h (λh=>?_) (λh=>?_)
 .
  refine sr (mq ?_);refine cq ?_;refine aq (nt (rx ?_));refine bv (dA (t:=Tl) (x:=([]:(List Int))) 6 rfl .nil rfl rfl) ?_;cases h;exact rb
 .
  refine sk (ai (sr (lo cY ?_)));refine mq ?_;obtain⟨r3,XS,h⟩:=aa h;refine jb (au [.tmp 22,.tmp 23] rfl rfl Wv rfl (sY k a0 a1 r3 XS)) ?_;refine aq (nt (sr ?_));refine mq ?_;refine jb (dZ rfl) ?_;refine nt (cn h (λh=>?_) (λh=>?_))
  .refine sr (mq ?_);refine cq ?_;refine aq (nt (rx ?_));refine bv (dA (t:=Tl) (x:=([]:(List Int))) 6 rfl .nil rfl rfl) ?_;cases h;exact rb
  .refine sk (ai (sr (lo cY ?_)));refine mq ?_;obtain⟨r4,XR,h⟩:=aa h;refine jb (au [.tmp 28,.tmp 29] rfl rfl KO rfl (gp k a0 a2 r4 XR)) ?_;refine ja (eS rfl) ?_;refine nt (cw h (λh=>?_) (λh=>?_))
   .refine sr (cq ?_);refine cq (nt (rx ?_));refine bv (dA (t:=Tl) (x:=([]:(List Int))) 6 rfl .nil rfl rfl) ?_;cases h;exact rb
   .refine sk (sr (lo cY ?_));refine mq ?_;obtain⟨r5,XQ,h⟩:=aa h;refine jb (au [.tmp 32,.tmp 33] rfl rfl Rm rfl (pN k a0 a1 r5 XQ)) ?_;refine aq (nt (sr ?_));iterate 2 refine mq ?_
    obtain⟨r6,XP,h⟩:=aa h;refine jb (au [.tmp 35,.tmp 36] rfl rfl Ux rfl (sX k r5 a2 r6 XP)) ?_;refine aq (nt (ai (sr ?_)));refine mq ?_;refine jb (bj rfl) ?_;refine nt (ci h (λh=>?_) (λh=>?_))
    .refine sr (cq ?_);refine cq (nt (rx ?_));refine bv (dA (t:=Tl) (x:=([]:(List Int))) 6 rfl .nil rfl rfl) ?_;cases h;exact rb
    .refine sk (sr (mq ?_));refine ja (aR (t:=Ti) [(.tmp 40,_)] [a2] rfl rfl cH (.cons rfl .int .nil) rfl rfl) ?_;refine aq (nt (ah ?_));refine aE (λz8 y7=>[(2,I y7.1),(3,Pt b1),(10,.rep (.slice Tl) r5),(11,I y7.2.1),(12,.rep Tl y7.2.2)]) (λz8 y7=>[.obj b1 25 (.rep am a0)]) (ia k a0 r5) k () (a2,r6,[a2]) (λ_=>rfl) h (SE.fin [0] ⟨rfl,rfl,rfl,rfl,rfl,trivial⟩ rfl) (λn z8 y7 h=>?_);unfold ia at h;refine Ds (Z:=Value) (α:=Int×Int×(List Int)) (λD x9=>[(2,I x9.1),(3,Pt b1),(10,.rep (.slice Tl) r5),(11,I x9.2.1),(12,.eq D)]) (λD x9=>[.obj b1 25 (.rep am a0),.sl D 3 Ti x9.2.2]) (λe=>e=r) h (λe h=>Option.some.inj h) (λK hR h=>?_) (λD x9 h=>?_)
     .refine ah (aC (Z:=Unit) (α:=Int) (λmc j=>[(2,I y7.1),(3,Pt b1),(10,.rep (.slice Tl) r5),(11,I j),(12,.rep Tl y7.2.2)]) (λmc j=>[.obj b1 25 (.rep am a0)]) h (λK h=>?_) (λmc j h=>?_))
      .refine ah (aE (λY u=>[(2,I y7.1),(3,Pt b1),(10,.rep (.slice Tl) r5),(11,I u),(12,.rep Tl y7.2.2)]) (λY u=>[.obj b1 25 (.rep am a0)]) (fR k r5 y7) k () y7.2.1 (λ_=>rfl) h (SE.fin [0] ⟨rfl,rfl,rfl,rfl,rfl,trivial⟩ rfl) (λn Y u h=>?_));unfold fR at h;refine ai (aC (Z:=Unit) (α:=Bool) (λX J=>[(2,I y7.1),(3,Pt b1),(10,.rep (.slice Tl) r5),(11,I u),(12,.rep Tl y7.2.2),(54,.eq (.bool J))]) (λX J=>[.obj b1 25 (.rep am a0)]) h (λK h=>?_) (λX J h=>?_))
       .refine ae (mq ?_);refine jb (iM rfl) ?_;refine mq ?_;refine bU (s:=44) rfl (λhb=>?_) (λhb=>?_)
        .replace h:=dO (uE hb) h;refine gm ?_;refine gm ?_;obtain⟨X0,XE,h⟩:=aa h;refine gb (dR rfl XE) ?_;obtain⟨XZ,XD,h⟩:=aa h;refine gb (ay (t:=Tl) rfl nk ew XD) ?_;refine ga (ak (t:=Tl) rfl ew rfl) ?_;refine gm ?_;obtain⟨XN,XC,h⟩:=aa h;refine gb (ay (t:=Ti) rfl fD bJ XC) ?_;refine ga (ak (t:=Ti) rfl bJ rfl) ?_;refine gb (gV rfl) ?_;refine pt (nl ?_);exact jz ((),decide (0≤XN)) h [0]
        .replace h:=bZ (uF hb) h;iterate 9 refine gn ?_
         refine pf (nl ?_);exact jz ((),false) h [0]
       .refine cv h (λh=>?_) (λh=>?_)
        .refine sk (ah (ae (mq ?_)));obtain⟨XM,XB,h⟩:=aa h;refine jb (dR rfl XB) ?_;refine aq (aG (bn ?_));exact jz ((),XM) h [0]
        .refine xa ?_;exact jz ((),u) h [0]
      .refine ai (sr (mq ?_));refine jb (jO rfl) ?_;refine nt (ci h (λh=>?_) (λh=>?_))
       .refine sr (mq ?_);refine aq ?_;refine cq (nt (rx (br (aX ?_))));obtain rfl:=hR _ h;exact rb
       .refine sk (sr (lo cY ?_));refine mq ?_;obtain⟨XL,XA,h⟩:=aa h;refine jb (dR rfl XA) ?_;refine mq ?_;obtain⟨y,XG,h⟩:=aa h;refine jc (au [.tmp 61,.tmp 63,.tmp 64] rfl rfl Rj rfl (nQ k a0 XL y7.1 y XG)) ?_;refine mq ?_;refine xr ?_;refine xr ?_;refine aq ?_;refine aq (nt (sr ?_));refine cq (nt ?_);refine aC (Z:=Unit) (α:=Int) (λU l=>[(3,Pt b1),(10,.rep (.slice Tl) r5),(11,I j),(12,.rep Tl y7.2.2),(15,I l)]) (λU l=>[.obj b1 25 (.rep am a0)]) h (λK h=>?_) (λU l h=>?_)
        .refine sr (cq (nt (ah ?_)));refine aE (λQ c=>[(3,Pt b1),(10,.rep (.slice Tl) r5),(11,I j),(12,.rep Tl y7.2.2),(13,.rep Tl y.1),(15,I c.1),(16,I c.2)]) (λQ c=>[.obj b1 25 (.rep am a0)]) (eY k a0 r5 j y) k () ((-1:Int),0) (λ_=>rfl) h (SE.fin [0] ⟨rfl,rfl,rfl,rfl,rfl,rfl,rfl,trivial⟩ rfl) (λn Q c h=>?_);unfold eY at h;refine ai (sr ?_);iterate 2 refine mq ?_
         refine ol fD ?_;refine jb (bj rfl) ?_;refine nt (ci h (λh=>?_) (λh=>?_))
         .refine sk (aC (Z:=Unit) (α:=Int) (λO E=>[(3,Pt b1),(10,.rep (.slice Tl) r5),(11,I j),(12,.rep Tl y7.2.2),(13,.rep Tl y.1),(15,I E),(16,I c.2)]) (λO E=>[.obj b1 25 (.rep am a0)]) h (λK h=>?_) (λO E h=>?_))
          .refine ah (aC (Z:=Unit) (α:=Bool) (λM F=>[(3,Pt b1),(10,.rep (.slice Tl) r5),(11,I j),(12,.rep Tl y7.2.2),(13,.rep Tl y.1),(15,I c.1),(16,I c.2),(99,.eq (.bool F))]) (λM F=>[.obj b1 25 (.rep am a0)]) h (λK h=>?_) (λM F h=>?_))
           .refine bu ?_;refine dm ?_;refine dm ?_;obtain⟨XY,Xz,h⟩:=aa h;refine db (dR rfl Xz) ?_;obtain⟨XX,Xy,h⟩:=aa h;refine db (ay (t:=Tl) rfl nk ew Xy) ?_;refine da (ak (t:=Tl) rfl ew rfl) ?_;refine dm ?_;refine dm ?_;obtain⟨XW,Xx,h⟩:=aa h;refine db (ay (t:=Ti) rfl fD bJ Xx) ?_;refine da (ak (t:=Ti) rfl bJ rfl) ?_;obtain⟨XV,Xw,h⟩:=aa h;refine db (ay (t:=Ti) rfl fD bJ Xw) ?_;refine da (ak (t:=Ti) rfl bJ rfl) ?_;refine da (av rfl oV) ?_;refine ea 0 (ao rfl bJ jQ rfl) ?_;refine db (gV rfl) ?_;refine jH rfl rfl rfl (aK rfl) ⟨rfl,trivial⟩ (λhb=>?_) (λhb=>?_)
            .replace h:=dO (uE hb) h;refine aJ rfl rfl rfl rfl rfl (aK rfl) ⟨rfl,rfl,trivial⟩ ?_;refine aJ rfl rfl rfl rfl rfl (bj rfl) ⟨rfl,rfl,rfl,trivial⟩ ?_;refine Dt rfl rfl rfl rfl rfl (aK rfl) ⟨rfl,rfl,trivial⟩ (λhb=>?_) (λhb=>?_)
             .replace h:=dO (uE hb) h;iterate 5 refine dg ?_
              refine df bY ?_;refine gn ?_;refine gb (gq rfl) ?_;refine pt (nl ?_);exact jz ((),true) h [0]
             .replace h:=bZ (uF hb) h;refine aJ rfl rfl rfl rfl rfl (aK rfl) ⟨rfl,rfl,trivial⟩ ?_;refine aJ rfl rfl rfl rfl rfl (aK rfl) ⟨rfl,rfl,trivial⟩ ?_;obtain⟨XK,Xv,h⟩:=aa h;refine aJ rfl rfl rfl rfl rfl (ay (t:=Ti) rfl fD bJ Xv) ⟨rfl,rfl,rfl,trivial⟩ ?_;refine aJ rfl rfl rfl rfl rfl (ak (t:=Ti) rfl bJ rfl) ⟨rfl,rfl,trivial⟩ ?_;refine aJ rfl rfl rfl rfl rfl (aK rfl) ⟨rfl,rfl,trivial⟩ ?_;refine df bY ?_;refine gb (bj rfl) ?_;refine gb (mK rfl) ?_;refine pt (nl ?_);exact jz ((),decide (XK < c.1)) h [0]
            .replace h:=bZ (uF hb) h;iterate 3 refine dg ?_
             refine du ?_;refine du ?_;refine du ?_;refine du ?_;refine du ?_;refine df bY ?_;refine gu ?_;refine gn ?_;refine pf (nl ?_);exact jz ((),false) h [0]
           .refine cv h (λh=>?_) (λh=>?_)
            .refine ae ?_;iterate 2 refine mq ?_
             obtain⟨XJ,zz,h⟩:=aa h;refine jb (ay (t:=Ti) rfl fD bJ zz) ?_;refine ja (ak (t:=Ti) rfl bJ rfl) ?_;refine aq (aG (bn ?_));exact jz ((),XJ) h [0]
            .refine ba (bn ?_);exact jz ((),c.1) h [0]
          .refine ae (mq ?_);obtain⟨XI,qt,h⟩:=aa h;refine jb (bh rfl qt) ?_;refine aq (nl ?_);exact jz ((),(E,XI)) h [0]
         .refine xa ?_;exact jz ((),c.1) h [0]
        .refine sr ?_;iterate 2 refine mq ?_
         obtain⟨XH,mw,h⟩:=aa h;refine jb (dR rfl mw) ?_;refine aq ?_;refine aq (nt (ae ?_));refine mq ?_;refine bf rfl rfl rfl (ge (t:=Ti) [(.tmp 107,_)] [l] rfl rfl cH (.cons rfl .int .nil) rfl rfl) ⟨rfl,trivial⟩ λX1=>?_;refine mq ?_;obtain⟨X2,XF,h⟩:=aa h;refine cz rfl rfl rfl (bi rfl rfl cH (ap XF)) ⟨rfl,rfl,trivial⟩ λXO=>?_;refine aq (aG (bn ?_));exact jz (XO,(l,XH,[l]++y7.2.2)) h [1,0]
     .refine ax (bH 1 rfl ?_);refine bv (fy [12] ⟨rfl,trivial⟩) ?_;exact jz ((),(x9.1,x9.2.1,x9.2.2)) h [0]
def dM(k:Nat)(a0:ab)(a1:ab):Nat->Int->Option (Except Bool Unit)
 |0,_=>none
 |n+1,y7=>
  if y7 < (a0.2.2.2.2.1.length:Int) then((aH a0.2.2.2.2.1 y7).bind λx9=>
  (aH a1.2.2.2.2.1 y7).bind λe=>
  (gf k x9 e).bind λh=>
  if¬(h=true) then(some (.error false)) else((ck (y7+1)).bind λc=>
  dM k a0 a1 n c)) else(some (.ok ()))
def dL(k:Nat)(a0:ab)(a1:ab):Nat->Int->Option (Except Bool Unit)
 |0,_=>none
 |n+1,c=>
  if c < (a0.2.2.2.2.2.length:Int) then((aH a0.2.2.2.2.2 c).bind λj=>
  (aH a1.2.2.2.2.2 c).bind λh=>
  if¬(j=h) then(some (.error false)) else((ck (c+1)).bind λe=>
  dL k a0 a1 n e)) else(some (.ok ()))
def jo(k:Nat)(a0:ab)(a1:ab):Option Bool:=
 ((if¬(a0.1=a1.1) then(some true) else(if¬(a0.2.1=a1.2.1) then(some true) else(if¬(a0.2.2.1=a1.2.2.1) then(some true) else(if¬(a0.2.2.2.1=a1.2.2.2.1) then(some true) else(if¬((a0.2.2.2.2.1.length:Int)=(a1.2.2.2.2.1.length:Int)) then(some true) else(some (!decide ((a0.2.2.2.2.2.length:Int)=(a1.2.2.2.2.2.length:Int))))))))):Option (Bool)).bind λx3=>
 if x3=true then(some false) else(bE (α:=Unit) (dM k a0 a1 k 0) (some) λ_=>
 bE (α:=Unit) (dL k a0 a1 k 0) (some) λ_=>
 some true)
theorem ul(k:Nat)(a0:ab)(a1:ab)(r:Bool)(h:jo k a0 a1=some r):
 cX Tryz.prog 18 [.rep am a0,.rep am a1] [] (λ_:Unit=>(bz [.eq (.bool r)],[])):=by
 unfold jo at h
 replace h:=aW h
 refine cX.of 88 Tryz.func18 rfl Tryz.ntmps18 rfl λS w0=>?_
 refine sr ?_
 refine bx λb1=>?_
 refine bx λb2=>?_
 refine cq ?_
 refine nt ?_
 refine ai ?_
 refine aC (Z:=Unit) (α:=Bool) (λz4 x3=>[(2,Pt b1),(3,Pt b2),(50,.eq (.bool x3))]) (λz4 x3=>[.obj b1 25 (.rep am a0),.obj b2 25 (.rep am a1)]) h (λK h=>?_) (λz4 x3 h=>?_)
 .
  refine ae (fl fx ?_);refine fr 1 ?_;refine lo bJ ?_;refine fl fx ?_;refine fr 1 ?_;refine lo bJ ?_;refine jb (dZ rfl) ?_;refine mq ?_;refine bU (s:=12) rfl (λhb=>?_) (λhb=>?_)
  .replace h:=dO (PN hb) h;iterate 5 refine gn ?_
   refine pt ?_;refine mq ?_;iterate 5 refine gn ?_
   refine pt ?_;refine mq ?_;iterate 5 refine gn ?_
   refine pt ?_;refine mq ?_;iterate 7 refine gn ?_
   refine pt ?_;refine mq ?_;iterate 7 refine gn ?_
   refine pt (nl ?_);exact jz ((),true) h [1,0]
  .replace h:=bZ (BV hb) h;refine ga (av rfl oV) ?_;refine fr 1 ?_;refine fe rfl rfl rfl rfl rfl rfl (ao rfl bJ jQ rfl) ⟨rfl,trivial⟩ ?_;refine ga (av rfl oV) ?_;refine fr 1 ?_;refine fe rfl rfl rfl rfl rfl rfl (ao rfl bJ jQ rfl) ⟨rfl,trivial⟩ ?_;refine gb (dZ rfl) ?_;refine pf ?_;refine mq ?_;refine bU (s:=19) rfl (λhb=>?_) (λhb=>?_)
   .replace h:=dO (PN hb) h;iterate 5 refine gn ?_
    refine pt ?_;refine mq ?_;iterate 5 refine gn ?_
    refine pt ?_;refine mq ?_;iterate 7 refine gn ?_
    refine pt ?_;refine mq ?_;iterate 7 refine gn ?_
    refine pt (nl ?_);exact jz ((),true) h [1,0]
   .replace h:=bZ (BV hb) h;refine ga (av rfl so) ?_;refine fr 1 ?_;refine fe rfl rfl rfl rfl rfl rfl (ao rfl bJ jQ rfl) ⟨rfl,trivial⟩ ?_;refine ga (av rfl so) ?_;refine fr 1 ?_;refine fe rfl rfl rfl rfl rfl rfl (ao rfl bJ jQ rfl) ⟨rfl,trivial⟩ ?_;refine gb (dZ rfl) ?_;refine pf ?_;refine mq ?_;refine bU (s:=26) rfl (λhb=>?_) (λhb=>?_)
    .replace h:=dO (PN hb) h;iterate 5 refine gn ?_
     refine pt ?_;refine mq ?_;iterate 7 refine gn ?_
     refine pt ?_;refine mq ?_;iterate 7 refine gn ?_
     refine pt (nl ?_);exact jz ((),true) h [1,0]
    .replace h:=bZ (BV hb) h;refine ga (av rfl uA) ?_;refine fr 1 ?_;refine fe rfl rfl rfl rfl rfl rfl (ao rfl bJ jQ rfl) ⟨rfl,trivial⟩ ?_;refine ga (av rfl uA) ?_;refine fr 1 ?_;refine fe rfl rfl rfl rfl rfl rfl (ao rfl bJ jQ rfl) ⟨rfl,trivial⟩ ?_;refine gb (dZ rfl) ?_;refine pf ?_;refine mq ?_;refine bU (s:=33) rfl (λhb=>?_) (λhb=>?_)
     .replace h:=dO (PN hb) h;iterate 7 refine gn ?_
      refine pt ?_;refine mq ?_;iterate 7 refine gn ?_
      refine pt (nl ?_);exact jz ((),true) h [1,0]
     .replace h:=bZ (BV hb) h;refine ga (av rfl bW) ?_;refine fr 1 ?_;refine fe rfl rfl rfl rfl rfl rfl (ao rfl fq jQ rfl) ⟨rfl,trivial⟩ ?_;refine ga (o8 rfl rfl pq) ?_;refine ga (av rfl bW) ?_;refine fr 1 ?_;refine fe rfl rfl rfl rfl rfl rfl (ao rfl fq jQ rfl) ⟨rfl,trivial⟩ ?_;refine ga (o8 rfl rfl pq) ?_;refine gb (dZ rfl) ?_;refine pf ?_;refine mq ?_;refine bU (s:=42) rfl (λhb=>?_) (λhb=>?_)
      .replace h:=dO (PN hb) h;iterate 7 refine gn ?_
       refine pt (nl ?_);exact jz ((),true) h [1,0]
      .replace h:=bZ (BV hb) h;refine ga (av rfl fH) ?_;refine fr 1 ?_;refine fe rfl rfl rfl rfl rfl rfl (ao rfl nh jQ rfl) ⟨rfl,trivial⟩ ?_;refine ga (o8 rfl rfl DI) ?_;refine ga (av rfl fH) ?_;refine fr 1 ?_;refine fe rfl rfl rfl rfl rfl rfl (ao rfl nh jQ rfl) ⟨rfl,trivial⟩ ?_;refine ga (o8 rfl rfl DI) ?_;refine gb (dZ rfl) ?_;refine pf (nl ?_);exact jz ((), !decide ((a0.2.2.2.2.2.length:Int)=(a1.2.2.2.2.2.length:Int))) h [1,0]
 .
  refine cv h (λh=>?_) (λh=>?_)
  .refine sr (cq (nt (rx ?_)));cases h;exact ra
  .refine sk (cO (Z:=Unit) (α:=Unit) (λz6 x5=>[(2,Pt b1),(3,Pt b2)]) (λz6 x5=>[.obj b1 25 (.rep am a0),.obj b2 25 (.rep am a1)]) (λe=>e=r) h (λe h=>Option.some.inj h) (λK hR h=>?_) (λz6 x5 h=>?_))
   .refine sr (cq (nt (ah ?_)));refine aE (λz8 y7=>[(2,Pt b1),(3,Pt b2),(5,I y7)]) (λz8 y7=>[.obj b1 25 (.rep am a0),.obj b2 25 (.rep am a1)]) (dM k a0 a1) k () 0 (λ_=>rfl) h (SE.fin [0,1] ⟨rfl,rfl,rfl,trivial⟩ rfl) (λn z8 y7 h=>?_);unfold dM at h;refine ai (sr (mq ?_));refine fl bW ?_;refine lo fq ?_;refine ol pq ?_;refine jb (bj rfl) ?_;refine nt (ci h (λh=>?_) (λh=>?_))
    .refine sk (ai (ah (ai (bu ?_))));refine da (av rfl bW) ?_;refine ea 0 (ao rfl fq jQ rfl) ?_;refine dm ?_;obtain⟨x9,X,h⟩:=aa h;refine db (ay (t:=(.slice Tl)) rfl pq kB X) ?_;refine da (ak (t:=(.slice Tl)) rfl kB rfl) ?_;refine da (av rfl bW) ?_;refine ea 1 (ao rfl fq jQ rfl) ?_;refine dm ?_;obtain⟨Q,F,h⟩:=aa h;refine db (ay (t:=(.slice Tl)) rfl pq kB F) ?_;refine da (ak (t:=(.slice Tl)) rfl kB rfl) ?_;refine df bY ?_;obtain⟨U,J,h⟩:=aa h;refine jb (au [.tmp 62,.tmp 67] rfl rfl Rq rfl (kK k x9 Q U J)) ?_;refine ja (eS rfl) ?_;refine nt (cw h (λh=>?_) (λh=>?_))
     .refine sr (cq (nt (aD (br (aX (bg ?_))))));obtain rfl:=hR _ h;exact ra
     .refine ba (aI (tn (ae (mq ?_))));obtain⟨O,E,h⟩:=aa h;refine jb (bh rfl E) ?_;refine aq (nl ?_);exact jz ((),O) h [0,1]
    .refine xa ?_;exact jz ((),()) h [0,1]
   .refine cO (Z:=Unit) (α:=Unit) (λl u=>[]) (λl u=>[]) (λe=>e=r) h (λe h=>Option.some.inj h) (λK hR h=>?_) (λl u h=>?_)
    .refine sr (cq (nt (ah ?_)));refine aE (λj c=>[(2,Pt b1),(3,Pt b2),(6,I c)]) (λj c=>[.obj b1 25 (.rep am a0),.obj b2 25 (.rep am a1)]) (dL k a0 a1) k () 0 (λ_=>rfl) h (SE.fin [0,1] ⟨rfl,rfl,rfl,trivial⟩ rfl) (λn j c h=>?_);unfold dL at h;refine ai (sr (mq ?_));refine fl fH ?_;refine lo nh ?_;refine ol DI ?_;refine jb (bj rfl) ?_;refine nt (ci h (λh=>?_) (λh=>?_))
     .refine sk (ai (ah (ai (bu ?_))));refine da (av rfl fH) ?_;refine ea 0 (ao rfl nh jQ rfl) ?_;refine dm ?_;obtain⟨mc,D,h⟩:=aa h;refine db (ay (t:=aL) rfl DI nN D) ?_;refine da (ak (t:=aL) rfl nN rfl) ?_;refine da (av rfl fH) ?_;refine ea 1 (ao rfl nh jQ rfl) ?_;refine dm ?_;obtain⟨Y,y,h⟩:=aa h;refine db (ay (t:=aL) rfl DI nN y) ?_;refine da (ak (t:=aL) rfl nN rfl) ?_;refine df bY ?_;refine jb (Jv rfl VZ rfl) ?_;refine nt (cn h (λh=>?_) (λh=>?_))
      .refine sr (cq (nt (aD (br (aX (bg ?_))))));obtain rfl:=hR _ h;exact ra
      .refine ba (aI (tn (ae (mq ?_))));obtain⟨M,x,h⟩:=aa h;refine jb (bh rfl x) ?_;refine aq (nl ?_);exact jz ((),M) h [0,1]
     .refine xa ?_;exact jz ((),()) h []
    .refine sr (cq (nt (aD ?_)));cases h;exact ra
