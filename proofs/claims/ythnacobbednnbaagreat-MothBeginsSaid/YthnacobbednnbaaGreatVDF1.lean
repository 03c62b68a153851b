import Derived.Test.YthnacobbednnbaaGreatVDFacts
open Nat
open List hiding mem_of_getElem?
open Array hiding mem_of_getElem? mk
set_option linter.unusedSimpArgs false
set_option linter.unusedVariables false
set_option maxRecDepth 4000
set_option maxHeartbeats 1000000
namespace Go.Proofs.YthnacobbednnbaaGreat
open K Go Go.Proofs
def iw(k:Nat)(a0:ab)(y4:Int):Nat->Int->Option (Except Bool Unit)
 |0,_=>none
 |n+1,c=>
  (aH a0.2.2.2.2.1 y4).bind λl=>
  if c < (l.length:Int) then((aH a0.2.2.2.2.1 y4).bind λj=>
  (aH j c).bind λh=>
  if 20 < (h.length:Int) then(some (.error true)) else((ck (c+1)).bind λe=>
  iw k a0 y4 n e)) else(some (.ok ()))
def ix(k:Nat)(a0:ab):Nat->Int->Option (Except Bool Unit)
 |0,_=>none
 |n+1,y4=>
  ((if y4 < (a0.2.2.2.2.1.length:Int) then(some (decide (y4 < 20))) else(some false)):Option (Bool)).bind λx6=>
  if x6=true then(bE (α:=Unit) ((aH a0.2.2.2.2.1 y4).bind λh=>
  if 20 < (h.length:Int) then(some (.error true)) else(iw k a0 y4 k 0)) (λe=>some (.error e)) λ_=>
  (ck (y4+1)).bind λc=>
  ix k a0 n c) else(some (.ok ()))
def pK(k:Nat)(a0:ab):Option Bool:=
 bE (α:=Unit) (ix k a0 k 0) (some) λ_=>
 ((if 20 < (a0.2.2.2.2.1.length:Int) then(some true) else(some (decide (20 < (a0.2.2.2.2.2.length:Int))))):Option (Bool)).bind λc=>
 some c
theorem Bj(k:Nat)(a0:ab)(r:Bool)(h:pK k a0=some r):
 cP Tryz.prog 10 [.rep am a0] [] (λ_:Unit=>(bu [.eq (.bool r)],[])):=by
 unfold pK at h
 replace h:=aS h
 refine cP.of 53 Tryz.func10 rfl Tryz.ntmps10 rfl λS w0=>?_
 refine sr ?_
 refine bx λb1=>?_
 refine cq ?_
 refine nt ?_
 refine cR (Z:=Unit) (α:=Unit) (λz3 x2=>[(1,Pt b1)]) (λz3 x2=>[.obj b1 25 (.rep am a0)]) (λe=>e=r) h (λe h=>Option.some.inj h) (λK hR h=>?_) (λz3 x2 h=>?_)
 .
  refine sr (cq (nt (ai ?_)));refine aD (λz5 y4=>[(1,Pt b1),(3,I y4)]) (λz5 y4=>[.obj b1 25 (.rep am a0)]) (ix k a0) k () 0 (λ_=>rfl) h (SE.fin [0] ⟨rfl,rfl,trivial⟩ rfl) (λn z5 y4 h=>?_);unfold ix at h;refine aj (aE (Z:=Unit) (α:=Bool) (λz7 x6=>[(1,Pt b1),(3,I y4),(13,.eq (.bool x6))]) (λz7 x6=>[.obj b1 25 (.rep am a0)]) h (λK h=>?_) (λz7 x6 h=>?_))
  .refine ae (mq ?_);refine fl cf ?_;refine lo fG ?_;refine ol pU ?_;refine jb (bp rfl) ?_;refine mq ?_;refine ce (s:=10) rfl (λhb=>?_) (λhb=>?_)
   .replace h:=eh (wi hb) h;refine gm ?_;refine gb (bp rfl) ?_;refine pt (nl ?_);exact jz ((),decide (y4 < 20)) h [0]
   .replace h:=cH (wj hb) h;iterate 2 refine gn ?_
    refine pf (nl ?_);exact jz ((),false) h [0]
  .refine cv h (λh=>?_) (λh=>?_)
   .refine sk (cR (Z:=Unit) (α:=Unit) (λz9 x8=>[(1,Pt b1),(3,I y4)]) (λz9 x8=>[.obj b1 25 (.rep am a0)]) (λe=>e=r) h (λe h=>hR e h) (λK hR h=>?_) (λz9 x8 h=>?_))
    .refine ai (aj (sr (fl cf ?_)));refine lo fG ?_;refine mq ?_;obtain⟨Y,J,h⟩:=aa h;refine jb (aC (t:=(.slice Tl)) rfl pU kF J) ?_;refine ja (an (t:=(.slice Tl)) rfl kF rfl) ?_;refine ol oa ?_;refine jb (jp rfl) ?_;refine nt (ci h (λh=>?_) (λh=>?_))
     .refine sr (cq (nt (rx (br (bb (bg ?_))))));obtain rfl:=hR _ h;exact ra
     .refine sk (sr (cq (nt (ai ?_))));refine aD (λu c=>[(1,Pt b1),(3,I y4),(4,I c)]) (λu c=>[.obj b1 25 (.rep am a0)]) (iw k a0 y4) k () 0 (λ_=>rfl) h (SE.fin [0] ⟨rfl,rfl,rfl,trivial⟩ rfl) (λn u c h=>?_);unfold iw at h;refine aj (sr (mq ?_));refine fl cf ?_;refine lo fG ?_;refine mq ?_;obtain⟨X,F,h⟩:=aa h;refine jb (aC (t:=(.slice Tl)) rfl pU kF F) ?_;refine ja (an (t:=(.slice Tl)) rfl kF rfl) ?_;refine ol oa ?_;refine jb (bp rfl) ?_;refine nt (ci h (λh=>?_) (λh=>?_))
      .refine sk (aj (ai (sr (fl cf ?_))));refine lo fG ?_;refine mq ?_;obtain⟨U,E,h⟩:=aa h;refine jb (aC (t:=(.slice Tl)) rfl pU kF E) ?_;refine ja (an (t:=(.slice Tl)) rfl kF rfl) ?_;refine mq ?_;obtain⟨Q,D,h⟩:=aa h;refine jb (aC (t:=Tl) rfl oa eR D) ?_;refine ja (an (t:=Tl) rfl eR rfl) ?_;refine ol gG ?_;refine jb (jp rfl) ?_;refine nt (ci h (λh=>?_) (λh=>?_))
       .refine sr (cq (nt (aA (br (bb (br (bb (bg ?_))))))));obtain rfl:=hR _ h;exact ra
       .refine aZ (aK (tn (ae (mq ?_))));obtain⟨O,y,h⟩:=aa h;refine jb (bi rfl y) ?_;refine aq (nl ?_);exact jz ((),O) h [0]
      .refine fF (bK (bK (c6 (bn ?_))));exact jz ((),()) h [0]
    .refine ae (mq ?_);obtain⟨M,x,h⟩:=aa h;refine jb (bi rfl x) ?_;refine aq (nl ?_);exact jz ((),M) h [0]
   .refine xa ?_;exact jz ((),()) h [0]
 .
  refine aE (Z:=Unit) (α:=Bool) (λl j=>[(2,.eq (.bool j))]) (λl j=>[]) h (λK h=>?_) (λl j h=>?_)
  .refine ae (fl cf ?_);refine lo fG ?_;refine ol pU ?_;refine jb (jp rfl) ?_;refine mq ?_;refine ce (s:=47) rfl (λhb=>?_) (λhb=>?_)
   .replace h:=eh (wi hb) h;iterate 4 refine gn ?_
    refine pt ?_;refine aq (nl ?_);exact jz ((),true) h []
   .replace h:=cH (wj hb) h;refine ga (au rfl fS) ?_;refine eW rfl rfl rfl rfl rfl rfl (ao rfl nF jr rfl) ⟨rfl,trivial⟩ ?_;refine ga (pA rfl rfl CJ) ?_;refine gb (jp rfl) ?_;refine pf ?_;refine aq (nl ?_);exact jz ((),decide (20 < (a0.2.2.2.2.2.length:Int))) h []
  .refine aA ?_;cases h;exact ra
def dZ(k:Nat)(a0:Int)(a1:Int)(a2:Int):Option Bool:=
 ((if a1≤a0 then(some (decide (a0≤a2))) else(some false)):Option (Bool)).bind λx1=>
 some x1
theorem ec(k:Nat)(a0:Int)(a1:Int)(a2:Int)(r:Bool)(h:dZ k a0 a1 a2=some r):
 cP Tryz.prog 53 [I a0,I a1,I a2] [] (λ_:Unit=>(bu [.eq (.bool r)],[])):=by
 unfold dZ at h
 replace h:=aS h
 refine cP.of 15 Tryz.func53 rfl Tryz.ntmps53 rfl λS w0=>?_
 refine sr ?_
 refine cq ?_
 refine nt ?_
 refine aE (Z:=Unit) (α:=Bool) (λz2 x1=>[(6,.eq (.bool x1))]) (λz2 x1=>[]) h (λK h=>?_) (λz2 x1 h=>?_)
 .
  refine ae ?_;iterate 2 refine mq ?_
  refine jb (AS rfl) ?_;refine mq ?_;refine ce (s:=10) rfl (λhb=>?_) (λhb=>?_)
  .replace h:=eh (wi hb) h;refine gm ?_;refine gm ?_;refine gb (AS rfl) ?_;refine pt ?_;refine aq (nl ?_);exact jz ((),decide (a0≤a2)) h []
  .replace h:=cH (wj hb) h;iterate 3 refine gn ?_
   refine pf ?_;refine aq (nl ?_);exact jz ((),false) h []
 .
  refine aA ?_;cases h;exact ra
def gr(k:Nat)(a0:Int)(a1:Int):Option Int:=
 (bR (0≤a1)).bind λ_=>
 some (EQ .u8 a0 (pN .u8 1 a1))
theorem lq(k:Nat)(a0:Int)(a1:Int)(r:Int)(h:gr k a0 a1=some r):
 cP Tryz.prog 75 [.eq (.int .u8 a0),I a1] [] (λ_:Unit=>(bu [.eq (.int .u8 r)],[])):=by
 unfold gr at h
 replace h:=aS h
 refine cP.of 9 Tryz.func75 rfl Tryz.ntmps75 rfl λS w0=>?_
 refine sr ?_
 refine cq ?_
 refine nt ?_
 refine sr ?_
 iterate 2 refine mq ?_
 obtain⟨u1,c,h⟩:=aa h
 refine jb (Oy rfl (ap c)) ?_
 refine jb (UC rfl) ?_
 refine aq ?_
 refine nt ?_
 refine aA ?_
 cases h
 exact ra
def fu(k:Nat)(a0:Int)(a1:Int):Option Bool:=
 (bR (0≤a1)).bind λ_=>
 some (decide ((rN .u8 (ii .u8 a0 a1) 1)=1))
theorem iu(k:Nat)(a0:Int)(a1:Int)(r:Bool)(h:fu k a0 a1=some r):
 cP Tryz.prog 97 [.eq (.int .u8 a0),I a1] [] (λ_:Unit=>(bu [.eq (.bool r)],[])):=by
 unfold fu at h
 replace h:=aS h
 refine cP.of 10 Tryz.func97 rfl Tryz.ntmps97 rfl λS w0=>?_
 refine sr ?_
 refine cq ?_
 refine nt ?_
 refine sr ?_
 iterate 2 refine mq ?_
 obtain⟨u1,c,h⟩:=aa h
 refine jb (vE rfl (ap c)) ?_
 refine jb (RG rfl) ?_
 refine jb (jG rfl) ?_
 refine aq ?_
 refine nt ?_
 refine aA ?_
 cases h
 exact ra
def dq(k:Nat)(a0:ab)(x8:(List Int)):Nat->(Int×Int)->Option (Except Int Int)
 |0,_=>none
 |n+1,y9=>
  if y9.2 < (x8.length:Int) then((aH x8 y9.2).bind λc=>
  (ck (a0.1 - 1)).bind λh=>
  (dZ k c 0 h).bind λr=>
  if¬(r=true) then(some (.error 3)) else((fu k y9.1 c).bind λl=>
  if l=true then(some (.error 4)) else((gr k y9.1 c).bind λj=>
  (ck (y9.2+1)).bind λe=>
  dq k a0 x8 n (j,e)))) else(some (.ok y9.1))
def dr(k:Nat)(a0:ab)(a1:(List (List Int))):Nat->(Int×Int)->Option (Except Int Unit)
 |0,_=>none
 |n+1,y4=>
  if y4.2 < (a1.length:Int) then(bE (α:=Int) ((aH a1 y4.2).bind λx8=>
  dq k a0 x8 k (y4.1,0)) (λe=>some (.error e)) λx6=>
  (ck (y4.2+1)).bind λc=>
  dr k a0 a1 n (x6,c)) else(some (.ok ()))
def jL(k:Nat)(a0:ab)(a1:(List (List Int))):Option Int:=
 if 3 < (a1.length:Int) then(some 6) else(bE (α:=Unit) (dr k a0 a1 k (0,0)) (some) λ_=>
 some 0)
theorem uK(k:Nat)(a0:ab)(a1:(List (List Int)))(r:Int)(h:jL k a0 a1=some r):
 cP Tryz.prog 54 [.rep am a0,.rep (.slice Tl) a1] [] (λ_:Unit=>(bu [I r],[])):=by
 unfold jL at h
 replace h:=aS h
 refine cP.of 39 Tryz.func54 rfl Tryz.ntmps54 rfl λS w0=>?_
 refine sr ?_
 refine bx λb1=>?_
 refine cq ?_
 refine nt ?_
 refine aj ?_
 refine sr ?_
 refine mq ?_
 refine ol oa ?_
 refine jb (jp rfl) ?_
 refine nt ?_
 refine ci h (λh=>?_) (λh=>?_)
 .
  refine sr (cq (nt (rx ?_)));cases h;exact ra
 .
  refine sk (sr (cq (nt ?_)));refine cR (Z:=Unit) (α:=Unit) (λz3 x2=>[]) (λz3 x2=>[]) (λe=>e=r) h (λe h=>Option.some.inj h) (λK hR h=>?_) (λz3 x2 h=>?_)
  .refine sr (mq ?_);refine ol oa ?_;refine fM rfl ?_;refine nt (ai (aD (λz5 y4=>[(2,Pt b1),(5,.eq (.int .u8 y4.1)),(13,.rep (.slice Tl) a1),(14,I (a1.length:Int)),(15,I y4.2)]) (λz5 y4=>[.obj b1 25 (.rep am a0)]) (dr k a0 a1) k () (0,0) (λ_=>rfl) h (SE.fin [0] ⟨rfl,rfl,rfl,rfl,rfl,trivial⟩ rfl) (λn z5 y4 h=>?_)));unfold dr at h;refine sr (jb (bp rfl) ?_);refine nt (aj (ci h (λh=>?_) (λh=>?_)))
   .refine sk (cR (Z:=Unit) (α:=Int) (λz7 x6=>[(2,Pt b1),(5,.eq (.int .u8 x6)),(13,.rep (.slice Tl) a1),(14,I (a1.length:Int)),(15,I y4.2)]) (λz7 x6=>[.obj b1 25 (.rep am a0)]) (λe=>e=r) h (λe h=>hR e h) (λK hR h=>?_) (λz7 x6 h=>?_))
    .refine ai (sr ?_);obtain⟨x8,X,h⟩:=aa h;refine jb (aC (t:=Tl) rfl oa eR X) ?_;refine ja (an (t:=Tl) rfl eR rfl) ?_;refine aq (nt (sr ?_));refine mq ?_;refine ol gG ?_;refine fM rfl ?_;refine nt (ai (aD (λj y9=>[(2,Pt b1),(5,.eq (.int .u8 y9.1)),(13,.rep (.slice Tl) a1),(14,I (a1.length:Int)),(15,I y4.2),(19,.rep Tl x8),(20,I (x8.length:Int)),(21,I y9.2)]) (λj y9=>[.obj b1 25 (.rep am a0)]) (dq k a0 x8) k () (y4.1,0) (λ_=>rfl) h (SE.fin [0] ⟨rfl,rfl,rfl,rfl,rfl,rfl,rfl,rfl,trivial⟩ rfl) (λn j y9 h=>?_)));unfold dq at h;refine sr (jb (bp rfl) ?_);refine nt (aj (ci h (λh=>?_) (λh=>?_)))
     .refine sk (aj (ai (sr ?_)));obtain⟨c,y,h⟩:=aa h;refine jb (aC (t:=Ti) rfl gG bW y) ?_;refine ja (an (t:=Ti) rfl bW rfl) ?_;refine aq (nt (aj (sr ?_)));refine mq ?_;refine fl fK ?_;refine lo bW ?_;obtain⟨O,x,h⟩:=aa h;refine jb (eC rfl x) ?_;obtain⟨U,F,h⟩:=aa h;refine jc (av [.tmp 25,.const (.int .i64 (0)),.tmp 28] rfl rfl zE rfl (ec k c 0 O U F)) ?_;refine ja (eS rfl) ?_;refine nt (cw h (λh=>?_) (λh=>?_))
      .refine sr (cq (nt (rx (br (bb (br (bb (bg ?_))))))));obtain rfl:=hR _ h;exact ra
      .refine sk (aj (sr ?_));iterate 2 refine mq ?_
       obtain⟨Q,E,h⟩:=aa h;refine jb (av [.tmp 31,.tmp 32] rfl rfl Jr rfl (iu k y9.1 c Q E)) ?_;refine nt (cv h (λh=>?_) (λh=>?_))
       .refine sr (cq (nt (rx (br (bb (br (bb (bg ?_))))))));obtain rfl:=hR _ h;exact ra
       .refine sk (ae ?_);iterate 2 refine mq ?_
        obtain⟨l,D,h⟩:=aa h;refine jb (av [.tmp 34,.tmp 35] rfl rfl Qh rfl (lq k y9.1 c l D)) ?_;refine aq (aG (aK (tn (ae ?_))));obtain⟨M,u,h⟩:=aa h;refine jb (bi rfl u) ?_;refine mq (nl ?_);exact jz ((),(l,M)) h [0]
     .refine fF (bK (bK (c6 (bn ?_))));exact jz ((),y9.1) h [0]
    .refine ae ?_;obtain⟨J,s,h⟩:=aa h;refine jb (bi rfl s) ?_;refine mq (nl ?_);exact jz ((),(x6,J)) h [0]
   .refine xa ?_;exact jz ((),()) h []
  .refine sr (cq (nt (aA ?_)));cases h;exact ra
def gQ(k:Nat)(a0:ab)(a1:aR):Option Int:=
 (((ck (a0.1 - 1)).bind λx5=>
 (dZ k a1.1 0 x5).bind λr6=>
 if¬(r6=true) then(some true) else((dZ k a1.2.1 0 (a0.2.2.2.2.1.length:Int)).bind λr7=>
 some (!r7))):Option (Bool)).bind λx3=>
 if x3=true then(some 3) else(some 0)
theorem rG(k:Nat)(a0:ab)(a1:aR)(r:Int)(h:gQ k a0 a1=some r):
 cP Tryz.prog 55 [.rep am a0,.rep aJ a1] [] (λ_:Unit=>(bu [I r],[])):=by
 unfold gQ at h
 replace h:=aS h
 refine cP.of 21 Tryz.func55 rfl Tryz.ntmps55 rfl λS w0=>?_
 refine sr ?_
 refine bx λb1=>?_
 refine bx λb2=>?_
 refine cq ?_
 refine nt ?_
 refine aj ?_
 refine aE (Z:=Unit) (α:=Bool) (λz4 x3=>[(20,.eq (.bool x3))]) (λz4 x3=>[]) h (λK h=>?_) (λz4 x3 h=>?_)
 .
  refine ae (fl zA ?_);refine lo bW ?_;refine fl fK ?_;refine fr 1 ?_;refine lo bW ?_;obtain⟨x5,c,h⟩:=aa h;refine jb (eC rfl c) ?_;obtain⟨r6,j,h⟩:=aa h;refine jc (av [.tmp 6,.const (.int .i64 (0)),.tmp 9] rfl rfl zE rfl (ec k a1.1 0 x5 r6 j)) ?_;refine ja (eS rfl) ?_;refine mq ?_;refine ce (s:=12) rfl (λhb=>?_) (λhb=>?_)
  .replace h:=eh (sG hb) h;iterate 7 refine gn ?_
   refine pt (nl ?_);exact jz ((),true) h []
  .replace h:=cH (mX hb) h;refine ga (au rfl zy) ?_;refine fr 1 ?_;refine eW rfl rfl rfl rfl rfl rfl (ao rfl bW jr rfl) ⟨rfl,trivial⟩ ?_;refine ga (au rfl cf) ?_;refine fr 1 ?_;refine eW rfl rfl rfl rfl rfl rfl (ao rfl fG jr rfl) ⟨rfl,trivial⟩ ?_;refine ga (pA rfl rfl pU) ?_;obtain⟨r7,e,h⟩:=aa h;refine gc (av [.tmp 14,.const (.int .i64 (0)),.tmp 17] rfl rfl zE rfl (ec k a1.2.1 0 (a0.2.2.2.2.1.length:Int) r7 e)) ?_;refine ga (eS rfl) ?_;refine pf (nl ?_);exact jz ((), !r7) h []
 .
  refine cv h (λh=>?_) (λh=>?_)
  .refine sr (cq (nt (rx ?_)));cases h;exact ra
  .refine sk (sr (cq (nt (aA ?_))));cases h;exact ra
def fC(k:Nat)(a0:ab):Nat->Int->Option (Except Int Unit)
 |0,_=>none
 |n+1,c=>
  if c < (a0.2.2.2.2.1.length:Int) then((aH a0.2.2.2.2.1 c).bind λj=>
  (jL k a0 j).bind λe=>
  if¬(e=0) then(some (.error e)) else((ck (c+1)).bind λh=>
  fC k a0 n h)) else(some (.ok ()))
def fB(k:Nat)(a0:ab):Nat->Int->Option (Except Int Unit)
 |0,_=>none
 |n+1,c=>
  if c < (a0.2.2.2.2.2.length:Int) then((aH a0.2.2.2.2.2 c).bind λj=>
  (gQ k a0 j).bind λe=>
  if¬(e=0) then(some (.error e)) else((ck (c+1)).bind λh=>
  fB k a0 n h)) else(some (.ok ()))
def nQ(k:Nat)(a0:ab):Option Int:=
 (((dZ k a0.1 1 5).bind λr4=>
 if¬(r4=true) then(some true) else((dZ k a0.2.1 0 3).bind λr5=>
 if¬(r5=true) then(some true) else((dZ k a0.2.2.1 0 3).bind λr6=>
 if¬(r6=true) then(some true) else((dZ k a0.2.2.2.1 1 3).bind λr7=>
 some (!r7))))):Option (Bool)).bind λx2=>
 if x2=true then(some 1) else(if(a0.2.2.2.2.1.length:Int) < 1 then(some 7) else(if 6 < (a0.2.2.2.2.1.length:Int) then(some 6) else(bE (α:=Unit) (fC k a0 k 0) (some) λ_=>
 if 8 < (a0.2.2.2.2.2.length:Int) then(some 6) else(bE (α:=Unit) (fB k a0 k 0) (some) λ_=>
 some 0))))
theorem zi(k:Nat)(a0:ab)(r:Int)(h:nQ k a0=some r):
 cP Tryz.prog 19 [.rep am a0] [] (λ_:Unit=>(bu [I r],[])):=by
 unfold nQ at h
 replace h:=aS h
 refine cP.of 73 Tryz.func19 rfl Tryz.ntmps19 rfl λS w0=>?_
 refine sr ?_
 refine bx λb1=>?_
 refine cq ?_
 refine nt ?_
 refine aj ?_
 refine aE (Z:=Unit) (α:=Bool) (λz3 x2=>[(1,Pt b1),(31,.eq (.bool x2))]) (λz3 x2=>[.obj b1 25 (.rep am a0)]) h (λK h=>?_) (λz3 x2 h=>?_)
 .
  refine ae (fl fK ?_);refine lo bW ?_;obtain⟨r4,Wn,h⟩:=aa h;refine jc (av [.tmp 11,.const (.int .i64 (1)),.const (.int .i64 (5))] rfl rfl zE rfl (ec k a0.1 1 5 r4 Wn)) ?_;refine ja (eS rfl) ?_;refine mq ?_;refine ce (s:=14) rfl (λhb=>?_) (λhb=>?_)
  .replace h:=eh (sG hb) h;iterate 4 refine gn ?_
   refine pt ?_;refine mq ?_;iterate 4 refine gn ?_
   refine pt ?_;refine mq ?_;iterate 4 refine gn ?_
   refine pt (nl ?_);exact jz ((),true) h [0]
  .replace h:=cH (mX hb) h;refine ga (au rfl pQ) ?_;refine eW rfl rfl rfl rfl rfl rfl (ao rfl bW jr rfl) ⟨rfl,trivial⟩ ?_;obtain⟨r5,zz,h⟩:=aa h;refine gc (av [.tmp 16,.const (.int .i64 (0)),.const (.int .i64 (3))] rfl rfl zE rfl (ec k a0.2.1 0 3 r5 zz)) ?_;refine ga (eS rfl) ?_;refine pf ?_;refine mq ?_;refine ce (s:=20) rfl (λhb=>?_) (λhb=>?_)
   .replace h:=eh (sG hb) h;iterate 4 refine gn ?_
    refine pt ?_;refine mq ?_;iterate 4 refine gn ?_
    refine pt (nl ?_);exact jz ((),true) h [0]
   .replace h:=cH (mX hb) h;refine ga (au rfl rP) ?_;refine eW rfl rfl rfl rfl rfl rfl (ao rfl bW jr rfl) ⟨rfl,trivial⟩ ?_;obtain⟨r6,qt,h⟩:=aa h;refine gc (av [.tmp 22,.const (.int .i64 (0)),.const (.int .i64 (3))] rfl rfl zE rfl (ec k a0.2.2.1 0 3 r6 qt)) ?_;refine ga (eS rfl) ?_;refine pf ?_;refine mq ?_;refine ce (s:=26) rfl (λhb=>?_) (λhb=>?_)
    .replace h:=eh (sG hb) h;iterate 4 refine gn ?_
     refine pt (nl ?_);exact jz ((),true) h [0]
    .replace h:=cH (mX hb) h;refine ga (au rfl t6) ?_;refine eW rfl rfl rfl rfl rfl rfl (ao rfl bW jr rfl) ⟨rfl,trivial⟩ ?_;obtain⟨r7,mw,h⟩:=aa h;refine gc (av [.tmp 28,.const (.int .i64 (1)),.const (.int .i64 (3))] rfl rfl zE rfl (ec k a0.2.2.2.1 1 3 r7 mw)) ?_;refine ga (eS rfl) ?_;refine pf (nl ?_);exact jz ((), !r7) h [0]
 .
  refine cv h (λh=>?_) (λh=>?_)
  .refine sr (cq (nt (rx ?_)));cases h;exact ra
  .refine sk (aj (sr (fl cf ?_)));refine lo fG ?_;refine ol pU ?_;refine aq (nt (ai (sr ?_)));refine mq ?_;refine jb (bp rfl) ?_;refine aq (nt ?_);refine ci h (λh=>?_) (λh=>?_)
   .refine sr (cq (nt (aA (bb (bg ?_)))));cases h;exact ra
   .refine sr (mq ?_);refine jb (jp rfl) ?_;refine aq (nt ?_);refine ci h (λh=>?_) (λh=>?_)
    .refine sr (cq (nt (aA (bb (bg ?_)))));cases h;exact ra
    .refine aZ (aK (tn (cR (Z:=Unit) (α:=Unit) (λz9 x8=>[(1,Pt b1)]) (λz9 x8=>[.obj b1 25 (.rep am a0)]) (λe=>e=r) h (λe h=>Option.some.inj h) (λK hR h=>?_) (λz9 x8 h=>?_))))
     .refine sr (fl cf ?_);refine lo fG ?_;refine ol pU ?_;refine fM rfl ?_;refine nt (ai (aD (λx j=>[(1,Pt b1),(42,.rep (.slice (.slice Tl)) a0.2.2.2.2.1),(43,I (a0.2.2.2.2.1.length:Int)),(44,I j)]) (λx j=>[.obj b1 25 (.rep am a0)]) (fC k a0) k () 0 (λ_=>rfl) h (SE.fin [0] ⟨rfl,rfl,rfl,rfl,trivial⟩ rfl) (λn x j h=>?_)));unfold fC at h;refine sr (jb (bp rfl) ?_);refine nt (aj (ci h (λh=>?_) (λh=>?_)))
      .refine sk (aj (ai (sr ?_)));obtain⟨Y,J,h⟩:=aa h;refine jb (aC (t:=(.slice Tl)) rfl pU kF J) ?_;refine ja (an (t:=(.slice Tl)) rfl kF rfl) ?_;refine aq (nt (sr ?_));refine lo dp ?_;refine mq ?_;obtain⟨mc,O,h⟩:=aa h;refine jb (av [.tmp 48,.tmp 49] rfl rfl Vn rfl (uK k a0 Y mc O)) ?_;refine aq (nt (sr ?_));refine mq ?_;refine jb (dV rfl) ?_;refine nt (cn h (λh=>?_) (λh=>?_))
       .refine sr (mq ?_);refine aq (nt (aA (br (bb (bg ?_)))));obtain rfl:=hR _ h;exact ra
       .refine aZ (aK (tn (ae ?_)));obtain⟨X,F,h⟩:=aa h;refine jb (bi rfl F) ?_;refine mq (nl ?_);exact jz ((),X) h [0]
      .refine xa ?_;exact jz ((),()) h [0]
     .refine aj (sr (fl fS ?_));refine lo nF ?_;refine ol CJ ?_;refine jb (jp rfl) ?_;refine nt (ci h (λh=>?_) (λh=>?_))
      .refine sr (cq (nt (rx ?_)));cases h;exact ra
      .refine sk (cR (Z:=Unit) (α:=Unit) (λu y=>[]) (λu y=>[]) (λe=>e=r) h (λe h=>Option.some.inj h) (λK hR h=>?_) (λu y h=>?_))
       .refine sr (fl fS ?_);refine lo nF ?_;refine ol CJ ?_;refine fM rfl ?_;refine nt (ai (aD (λl c=>[(1,Pt b1),(60,Rs aJ a0.2.2.2.2.2),(61,I (a0.2.2.2.2.2.length:Int)),(62,I c)]) (λl c=>[.obj b1 25 (.rep am a0)]) (fB k a0) k () 0 (λ_=>rfl) h (SE.fin [0] ⟨rfl,rfl,rfl,rfl,trivial⟩ rfl) (λn l c h=>?_)));unfold fB at h;refine sr (jb (bp rfl) ?_);refine nt (aj (ci h (λh=>?_) (λh=>?_)))
        .refine sk (aj (ai (sr ?_)));obtain⟨U,E,h⟩:=aa h;refine jb (aC (t:=aJ) rfl CJ nq E) ?_;refine ja (an (t:=aJ) rfl nq rfl) ?_;refine aY rfl rfl rfl (bA rfl FO NH) trivial λWp=>?_;refine aP rfl rfl (aN rfl nq rfl rfl rfl) ⟨rfl,rfl,trivial⟩ ?_;refine nt (sr (fr 1 ?_));refine lo dp ?_;refine fr 1 ?_;refine lo nq ?_;obtain⟨gw,M,h⟩:=aa h;refine jb (av [.tmp 66,.tmp 67] rfl rfl Vm rfl (rG k a0 U gw M)) ?_;refine aq (nt (sr ?_));refine mq ?_;refine jb (dV rfl) ?_;refine nt (cn h (λh=>?_) (λh=>?_))
         .refine sr (mq ?_);refine aq (nt (aA (br (bb (bg ?_)))));obtain rfl:=hR _ h;exact ra
         .refine aZ (aK (tn (ae ?_)));obtain⟨Q,D,h⟩:=aa h;refine jb (bi rfl D) ?_;refine mq (nl ?_);exact jz ((),Q) h [1]
        .refine xa ?_;exact jz ((),()) h []
       .refine sr (cq (nt (aA ?_)));cases h;exact ra
def cN(k:Nat)(a0:ab)(a1:Int):Nat->((List Int)×Int)->Option (List Int)
 |0,_=>none
 |n+1,y5=>
  if y5.2 < 5 then((((bR (0≤y5.2/\y5.2 < 5)).bind λ_=>
  (fu k a1 y5.2).bind λe=>
  if e=true then((bR (0≤y5.2/\y5.2 < 5)).bind λ_=>
  some (List.set (List.set y5.1 (Int.toNat y5.2) (-1:Int)) (Int.toNat y5.2) a0.2.1)) else(some (List.set y5.1 (Int.toNat y5.2) (-1:Int)))):Option ((List Int))).bind λx7=>
  (ck (y5.2+1)).bind λc=>
  cN k a0 a1 n (x7,c)) else(some y5.1)
def ff(k:Nat)(a0:ab)(a1:Int):Option (List Int):=
 ((cN k a0 a1 k ([0,0,0,0,0],0)):Option ((List Int))).bind λx3=>
 some x3
theorem rD{M:Md Tryz.prog}{bm:Nat}{c0 c1 c2 c3 c4 c5:Value}(hK:Kn M bm 0 [c0,c1,c2,c3,c4,c5])(k:Nat)(a0:ab)(a1:Int)(r:(List Int))(h:ff k a0 a1=some r):
 cu M 94 [.rep (.mo (Pv bm) [c0,c1,c2,c3,c4,c5] am) a0,.eq (.int .u8 a1)] [] (λ_:Unit=>(bu [.rep Tr r],[])):=by
 unfold ff at h
 replace h:=aS h
 refine cu.of 24 Tryz.func94 rfl Tryz.ntmps94 rfl λS w0=>?_
 refine sr ?_
 refine aY rfl rfl rfl (bA rfl KN NG) trivial λb1=>?_
 refine nt ?_
 refine sr ?_
 refine aY rfl rfl rfl (bA rfl KN NG) trivial λb2=>?_
 refine nt ?_
 refine aE (Z:=Unit) (α:=(List Int)) (λz4 x3=>[(4,Pt b1),(5,Pt b2)]) (λz4 x3=>[.obj b1 82 (.rep Tr [0,0,0,0,0]),.obj b2 82 (.rep Tr x3)]) h (λK h=>?_) (λz4 x3 h=>?_)
 .
  refine sr (fM rfl ?_);refine nt (ai (aD (λz6 y5=>[(0,.rep (.mo (Pv bm) [c0,c1,c2,c3,c4,c5] am) a0),(1,.eq (.int .u8 a1)),(4,Pt b1),(5,Pt b2),(7,I y5.2)]) (λz6 y5=>[.obj b1 82 (.rep Tr [0,0,0,0,0]),.obj b2 82 (.rep Tr y5.1)]) (cN k a0 a1) k () ([0,0,0,0,0],0) (λ_=>rfl) h (SE.fin [1,0] ⟨rfl,rfl,rfl,rfl,rfl,trivial⟩ rfl) (λn z6 y5 h=>?_)));unfold cN at h;refine sr (jb (bp rfl) ?_);refine nt (aj (ci h (λh=>?_) (λh=>?_)))
  .refine sk (aE (Z:=Unit) (α:=(List Int)) (λz8 x7=>[(0,.rep (.mo (Pv bm) [c0,c1,c2,c3,c4,c5] am) a0),(1,.eq (.int .u8 a1)),(4,Pt b1),(5,Pt b2),(7,I y5.2)]) (λz8 x7=>[.obj b1 82 (.rep Tr [0,0,0,0,0]),.obj b2 82 (.rep Tr x7)]) h (λK h=>?_) (λz8 x7 h=>?_))
   .refine ai (sr (mq ?_));refine aq (nt (sr ?_));refine mq ?_;obtain⟨u9,e,h⟩:=aa h;refine jb (eu rfl Ee bW (ap e).1 (ap e).2) ?_;refine fr 1 ?_;refine aP rfl rfl (ip (t:=Ti) (off:=0) (i:=y5.2) (N:=5) rfl bW .int rfl rfl rfl rfl (ap e).1 (ap e).2 rfl) ⟨rfl,rfl,trivial⟩ ?_;refine nt (sr ?_);iterate 2 refine mq ?_
    obtain⟨u,l,h⟩:=aa h;refine jb (av [.tmp 12,.tmp 13] rfl rfl Jr rfl (iu k a1 y5.2 u l)) ?_;refine nt (cv h (λh=>?_) (λh=>?_))
    .refine ae ?_;iterate 2 refine mq ?_
     refine ja (mg rfl) ?_;refine ja (ir rfl iI) ?_;refine ja (jk 1 false rfl pQ rfl rfl) ?_;refine ja (jZ (t:=Ti) rfl bW (hK.sub 1 1 rfl (le_of_ble_eq_true rfl)) rfl rfl) ?_;obtain⟨x,c,h⟩:=aa h;refine jb (eu rfl Ee bW (ap c).1 (ap c).2) ?_;refine aP rfl rfl (ip (t:=Ti) (off:=0) (i:=y5.2) (N:=5) rfl bW .int rfl rfl rfl rfl (ap c).1 (ap c).2 rfl) ⟨rfl,rfl,trivial⟩ ?_;refine aG (bn ?_);exact jz ((),List.set (List.set y5.1 (Int.toNat y5.2) (-1:Int)) (Int.toNat y5.2) a0.2.1) h [1,0]
    .refine aZ (bn ?_);exact jz ((),List.set y5.1 (Int.toNat y5.2) (-1:Int)) h [1,0]
   .refine ae ?_;obtain⟨s,j,h⟩:=aa h;refine jb (bi rfl j) ?_;refine mq (nl ?_);exact jz ((),(x7,s)) h [0,1]
  .refine xa ?_;exact jz ((),y5.1) h [0,1]
 .
  refine sr (fr 1 ?_);refine lo jU ?_;refine fr 1 ?_;refine aP rfl rfl (aN rfl jU rfl rfl rfl) ⟨rfl,rfl,trivial⟩ ?_;refine nt (aA ?_);obtain rfl:=Option.some.inj h;exact aQ () [.rep Tr x3] 0 ⟨⟨_,_,_,_,_,rfl,(.head _),jU,(qp),rfl⟩,trivial⟩ rfl
def dz(k:Nat)(a0:(List Int))(a1:Int):Nat->Int->Option (Except Int Unit)
 |0,_=>none
 |n+1,y3=>
  if y3 < (a0.length:Int) then((aH a0 y3).bind λx5=>
  if a1=x5 then(some (.error y3)) else((ck (y3+1)).bind λx6=>
  dz k a0 a1 n x6)) else(some (.ok ()))
def gV(k:Nat)(a0:(List Int))(a1:Int):Option Int:=
 bE (α:=Unit) (dz k a0 a1 k 0) (some) λ_=>
 some (-1:Int)
theorem nH(k:Nat)(a0:(List Int))(a1:Int)(r:Int)(h:gV k a0 a1=some r):
 cP Tryz.prog 62 [.rep Tl a0,I a1] [] (λ_:Unit=>(bu [I r],[])):=by
 unfold gV at h
 replace h:=aS h
 refine cP.of 19 Tryz.func62 rfl Tryz.ntmps62 rfl λS w0=>?_
 refine sr ?_
 refine cq ?_
 refine nt ?_
 refine cR (Z:=Unit) (α:=Unit) (λz2 x1=>[]) (λz2 x1=>[]) (λe=>e=r) h (λe h=>Option.some.inj h) (λK hR h=>?_) (λz2 x1 h=>?_)
 .
  refine sr (mq ?_);refine ol gG ?_;refine fM rfl ?_;refine nt (ai (aD (λz4 y3=>[(0,.rep Tl a0),(1,I a1),(7,I (a0.length:Int)),(8,I y3)]) (λz4 y3=>[]) (dz k a0 a1) k () 0 (λ_=>rfl) h (SE.fin [] ⟨rfl,rfl,rfl,rfl,trivial⟩ rfl) (λn z4 y3 h=>?_)));unfold dz at h;refine sr (jb (bp rfl) ?_);refine nt (aj (ci h (λh=>?_) (λh=>?_)))
  .refine sk (aj (ai (sr (mq ?_))));refine aq (nt (sr ?_));iterate 3 refine mq ?_
   obtain⟨x5,j,h⟩:=aa h;refine jb (aC (t:=Ti) rfl gG bW j) ?_;refine ja (an (t:=Ti) rfl bW rfl) ?_;refine jb (jG rfl) ?_;refine nt (ci h (λh=>?_) (λh=>?_))
   .refine sr (mq ?_);refine aq (nt (aA (br (bb (bg ?_)))));obtain rfl:=hR _ h;exact ra
   .refine aZ (aK (tn (ae ?_)));obtain⟨x6,c,h⟩:=aa h;refine jb (bi rfl c) ?_;refine mq (nl ?_);exact jz ((),x6) h []
  .refine xa ?_;exact jz ((),()) h []
 .
  refine sr (cq (nt (aA ?_)));cases h;exact ra
def lQ(k:Nat)(a0:Int):Option Bool:=
 some (!decide (a0=a0))
theorem sZ(k:Nat)(a0:Int)(r:Bool)(h:lQ k a0=some r):
 cP Tryz.prog 173 [I a0] [] (λ_:Unit=>(bu [.eq (.bool r)],[])):=by
 unfold lQ at h
 replace h:=aS h
 refine cP.of 6 Tryz.func173 rfl Tryz.ntmps173 rfl λS w0=>?_
 refine sr ?_
 refine cq ?_
 refine nt ?_
 refine sr ?_
 iterate 2 refine mq ?_
 refine jb (dV rfl) ?_
 refine aq ?_
 refine nt ?_
 refine aA ?_
 cases h
 exact ra
def pS(k:Nat)(a0:Int)(a1:Int):Option Bool:=
 (((lQ k a0).bind λr3=>
 if r3=true then((lQ k a1).bind λr4=>
 if¬(r4=true) then(some true) else(some (decide (a0 < a1)))) else(some (decide (a0 < a1)))):Option (Bool)).bind λx1=>
 some x1
theorem BK(k:Nat)(a0:Int)(a1:Int)(r:Bool)(h:pS k a0 a1=some r):
 cP Tryz.prog 163 [I a0,I a1] [] (λ_:Unit=>(bu [.eq (.bool r)],[])):=by
 unfold pS at h
 replace h:=aS h
 refine cP.of 17 Tryz.func163 rfl Tryz.ntmps163 rfl λS w0=>?_
 refine sr ?_
 refine cq ?_
 refine nt ?_
 refine aE (Z:=Unit) (α:=Bool) (λz2 x1=>[(4,.eq (.bool x1))]) (λz2 x1=>[]) h (λK h=>?_) (λz2 x1 h=>?_)
 .
  refine ae (mq ?_);obtain⟨r3,e,h⟩:=aa h;refine ja (av [.tmp 5] rfl rfl OC rfl (sZ k a0 r3 e)) ?_;refine mq ?_;refine ce (s:=7) rfl (λhb=>?_) (λhb=>?_)
  .replace h:=eh (K1 hb) h;refine gm ?_;obtain⟨r4,c,h⟩:=aa h;refine ga (av [.tmp 8] rfl rfl OC rfl (sZ k a1 r4 c)) ?_;refine ga (eS rfl) ?_;refine pt ?_;refine mq ?_;refine ce (s:=12) rfl (λhb=>?_) (λhb=>?_)
   .replace h:=eh (sG hb) h;iterate 3 refine gn ?_
    refine pt ?_;refine aq (nl ?_);exact jz ((),true) h []
   .replace h:=cH (mX hb) h;refine gm ?_;refine gm ?_;refine gb (bp rfl) ?_;refine pf ?_;refine aq (nl ?_);exact jz ((),decide (a0 < a1)) h []
  .replace h:=cH (K2 hb) h;iterate 3 refine gn ?_
   refine pf ?_;refine mq ?_;refine gm ?_;refine gm ?_;refine gb (bp rfl) ?_;refine pf ?_;refine aq (nl ?_);exact jz ((),decide (a0 < a1)) h []
 .
  refine aA ?_;cases h;exact ra
def bv(k:Nat)(a1:Int):Nat->((List Int)×Int)->Option (List Int)
 |0,_=>none
 |n+1,y6=>
  ((if a1 < y6.2 then((aH y6.1 y6.2).bind λu=>
  (ck (y6.2 - 1)).bind λs=>
  (aH y6.1 s).bind λr=>
  (pS k u r).bind λx=>
  some x) else(some false)):Option (Bool)).bind λx8=>
  if x8=true then((ck (y6.2 - 1)).bind λe=>
  (ck (y6.2 - 1)).bind λl=>
  (aH y6.1 l).bind λc=>
  (aH y6.1 y6.2).bind λj=>
  (aH y6.1 y6.2).bind λD=>
  (aH (List.set y6.1 (Int.toNat y6.2) c) e).bind λy=>
  (ck (y6.2 - 1)).bind λh=>
  bv k a1 n (List.set (List.set y6.1 (Int.toNat y6.2) c) (Int.toNat e) j,h)) else(some y6.1)
def bz(k:Nat)(a1:Int)(a2:Int):Nat->((List Int)×Int)->Option (List Int)
 |0,_=>none
 |n+1,y2=>
  if y2.2 < a2 then(((bv k a1 k (y2.1,y2.2)):Option ((List Int))).bind λx4=>
  (ck (y2.2+1)).bind λc=>
  bz k a1 a2 n (x4,c)) else(some y2.1)
def bY(k:Nat)(a0:(List Int))(a1:Int)(a2:Int):Option (List Int):=
 (ck (a1+1)).bind λx1=>
 bz k a1 a2 k (a0,x1)
theorem jV(k:Nat)(a0:(List Int))(c:Value)(a1:Int)(a2:Int)(r:(List Int))(h:bY k a0 a1 a2=some r):
 cP Tryz.prog 157 [.eq c,I a1,I a2] [.sl c 3 Ti a0] (λ_:Unit=>(bu [],[.sl c 3 Ti r])):=by
 unfold bY at h
 replace h:=aS h
 refine cP.of 49 Tryz.func157 rfl Tryz.ntmps157 rfl λS w0=>?_
 refine sr ?_
 refine mq ?_
 obtain⟨x1,WH,h⟩:=aa h
 refine jb (bi rfl WH) ?_
 refine aq ?_
 refine nt ?_
 refine ai ?_
 refine aD (λz3 y2=>[(0,.eq c),(1,I a1),(2,I a2),(6,I y2.2)]) (λz3 y2=>[.sl c 3 Ti y2.1]) (bz k a1 a2) k () (a0,x1) (λ_=>rfl) h (SE.fin [0] ⟨rfl,rfl,rfl,rfl,trivial⟩ rfl) (λn z3 y2 h=>?_)
 unfold bz at h
 refine aj ?_
 refine sr ?_
 iterate 2 refine mq ?_
 refine jb (bp rfl) ?_
 refine nt ?_
 refine ci h (λh=>?_) (λh=>?_)
 .
  refine sk (aE (Z:=Unit) (α:=(List Int)) (λz5 x4=>[(0,.eq c),(1,I a1),(2,I a2),(6,I y2.2)]) (λz5 x4=>[.sl c 3 Ti x4]) h (λK h=>?_) (λz5 x4 h=>?_))
  .refine ai (sr (mq ?_));refine aq (nt (ai ?_));refine aD (λz7 y6=>[(0,.eq c),(1,I a1),(2,I a2),(6,I y2.2),(7,I y6.2)]) (λz7 y6=>[.sl c 3 Ti y6.1]) (bv k a1) k () (y2.1,y2.2) (λ_=>rfl) h (SE.fin [0] ⟨rfl,rfl,rfl,rfl,rfl,trivial⟩ rfl) (λn z7 y6 h=>?_);unfold bv at h;refine aj (aE (Z:=Unit) (α:=Bool) (λz9 x8=>[(0,.eq c),(1,I a1),(2,I a2),(6,I y2.2),(7,I y6.2),(30,.eq (.bool x8))]) (λz9 x8=>[.sl c 3 Ti y6.1]) h (λK h=>?_) (λz9 x8 h=>?_))
   .refine bL ?_;refine dm ?_;refine dm ?_;refine db (jp rfl) ?_;refine lK rfl rfl rfl (aW rfl) ⟨rfl,trivial⟩ (λhb=>?_) (λhb=>?_)
    .replace h:=eh (wi hb) h;refine bo rfl rfl rfl rfl rfl (aW rfl) ⟨rfl,rfl,trivial⟩ ?_;refine bo rfl rfl rfl rfl rfl (aW rfl) ⟨rfl,rfl,trivial⟩ ?_;obtain⟨Wu,x,h⟩:=aa h;refine ig 0 rfl rfl rfl rfl rfl rfl (cI (t:=Ti) rfl gG bW x) ⟨rfl,rfl,rfl,trivial⟩ ?_;refine ig 0 rfl rfl rfl rfl rfl rfl (gZ (i:=Int.toNat y6.2) (off:=0) rfl bW (λ_=>rfl) rfl (dM x).2.2 rfl) ⟨rfl,rfl,trivial⟩ ?_;refine bo rfl rfl rfl rfl rfl (aW rfl) ⟨rfl,rfl,trivial⟩ ?_;refine bo rfl rfl rfl rfl rfl (aW rfl) ⟨rfl,rfl,trivial⟩ ?_;obtain⟨Wt,qt,h⟩:=aa h;refine bo rfl rfl rfl rfl rfl (eC rfl qt) ⟨rfl,rfl,rfl,trivial⟩ ?_;obtain⟨Ws,u,h⟩:=aa h;refine ig 0 rfl rfl rfl rfl rfl rfl (cI (t:=Ti) rfl gG bW u) ⟨rfl,rfl,rfl,trivial⟩ ?_;refine ig 0 rfl rfl rfl rfl rfl rfl (gZ (i:=Int.toNat Wt) (off:=0) rfl bW (λ_=>rfl) rfl (dM u).2.2 rfl) ⟨rfl,rfl,trivial⟩ ?_;refine df cU ?_;obtain⟨F,zz,h⟩:=aa h;refine gb (av [.tmp 23,.tmp 28] rfl rfl Tj rfl (BK k Wu Ws F zz)) ?_;refine pt (nl ?_);exact jz ((),F) h [0]
    .replace h:=cH (wj hb) h;iterate 9 refine dg ?_
     refine df cU ?_;refine gn ?_;refine pf (nl ?_);exact jz ((),false) h [0]
   .refine cv h (λh=>?_) (λh=>?_)
    .refine sk (aj (ai (qc ?_)));refine bT rfl rfl rfl (aW rfl) ⟨rfl,trivial⟩ ?_;refine bT rfl rfl rfl (aW rfl) ⟨rfl,trivial⟩ ?_;refine bT rfl rfl rfl (aW rfl) ⟨rfl,trivial⟩ ?_;refine bT rfl rfl rfl (aW rfl) ⟨rfl,trivial⟩ ?_;obtain⟨y,mw,h⟩:=aa h;refine bT rfl rfl rfl (eC rfl mw) ⟨rfl,rfl,trivial⟩ ?_;refine bT rfl rfl rfl (aW rfl) ⟨rfl,trivial⟩ ?_;refine bT rfl rfl rfl (aW rfl) ⟨rfl,trivial⟩ ?_;obtain⟨Wq,mc,h⟩:=aa h;refine bT rfl rfl rfl (eC rfl mc) ⟨rfl,rfl,trivial⟩ ?_;obtain⟨E,s,h⟩:=aa h;refine hJ 0 rfl rfl rfl rfl (cI (t:=Ti) rfl gG bW s) ⟨rfl,rfl,trivial⟩ ?_;refine hJ 0 rfl rfl rfl rfl (gZ (i:=Int.toNat Wq) (off:=0) rfl bW (λ_=>rfl) rfl (dM s).2.2 rfl) ⟨rfl,trivial⟩ ?_;refine bT rfl rfl rfl (aW rfl) ⟨rfl,trivial⟩ ?_;refine bT rfl rfl rfl (aW rfl) ⟨rfl,trivial⟩ ?_;obtain⟨D,l,h⟩:=aa h;refine hJ 0 rfl rfl rfl rfl (cI (t:=Ti) rfl gG bW l) ⟨rfl,rfl,trivial⟩ ?_;refine hJ 0 rfl rfl rfl rfl (gZ (i:=Int.toNat y6.2) (off:=0) rfl bW (λ_=>rfl) rfl (dM l).2.2 rfl) ⟨rfl,trivial⟩ ?_;obtain⟨WQ,j,h⟩:=aa h;refine hJ 0 rfl rfl rfl rfl (cI (t:=Ti) rfl gG bW j) ⟨rfl,rfl,trivial⟩ ?_;refine uk 15 [true,true,false,false,false,true,true,true,true,true,true,true,true,true,true] [48] [] [] rfl (by kernel_rfl) (by kernel_rfl) (by kernel_rfl) cU (λvs hv hB=>?_);obtain⟨w0,W5,rfl,WG⟩:=aF hv;obtain⟨w1,W4,rfl,WE⟩:=aF WG;obtain⟨w2,W3,rfl,WC⟩:=aF WE;obtain⟨w3,W2,rfl,WB⟩:=aF WC;obtain⟨w4,W1,rfl,WA⟩:=aF WB;obtain⟨w5,W0,rfl,Wz⟩:=aF WA;obtain⟨w6,WZ,rfl,Wy⟩:=aF Wz;obtain⟨w7,WY,rfl,Wx⟩:=aF Wy;obtain⟨w8,WX,rfl,Wv⟩:=aF Wx;obtain⟨w9,WO,rfl,X⟩:=aF Wv;obtain⟨WW,WN,rfl,U⟩:=aF X;obtain⟨WU,WM,rfl,Q⟩:=aF U;obtain⟨WT,WL,rfl,O⟩:=aF Q;obtain⟨WS,WJ,rfl,M⟩:=aF O;obtain⟨WR,WI,rfl,J⟩:=aF M;obtain rfl:=qq J;refine⟨[0],[.sl c 3 Ti y6.1],by kernel_rfl,by decide,?_⟩;refine uh rfl rfl (io (i:=Int.toNat y6.2) rfl bW rfl (oG j) rfl .int rfl) ⟨rfl,rfl,trivial⟩ (by kernel_rfl) ?_;obtain⟨WP,e,h⟩:=aa h;refine ug rfl rfl rfl rfl (cI (t:=Ti) rfl gG bW e) ⟨rfl,rfl,trivial⟩ (by kernel_rfl) ?_;refine uh rfl rfl (io (i:=Int.toNat y) rfl bW rfl (oG e) rfl .int rfl) ⟨rfl,rfl,trivial⟩ (by kernel_rfl) ?_;refine wH ?_;refine bC (SE.fin (Γ':=[(0,.eq c),(1,I a1),(2,I a2),(6,I y2.2),(7,I y6.2)]) (Δ':=[.sl c 3 Ti (List.set (List.set y6.1 (Int.toNat y6.2) E) (Int.toNat y) D)]) [0] ⟨rfl,rfl,rfl,rfl,rfl,trivial⟩ rfl) ?_;refine aK (tn (ae (mq ?_)));obtain⟨Wp,gw,h⟩:=aa h;refine jb (eC rfl gw) ?_;refine aq (nl ?_);exact jz ((),(List.set (List.set y6.1 (Int.toNat y6.2) E) (Int.toNat y) D,Wp)) h [0]
    .refine fF (bK (bK (c6 (bn ?_))));exact jz ((),y6.1) h [0]
  .refine ae (mq ?_);obtain⟨Wn,Y,h⟩:=aa h;refine jb (bi rfl Y) ?_;refine aq (nl ?_);exact jz ((),(x4,Wn)) h [0]
 .
  refine fF (bK (bK (c6 (kZ ?_))));cases h;exact aQ () [] 1 trivial rfl
def lr(k:Nat)(a0:Int):Option Int:=
 ((if 4294967296≤a0 then(some (ii .u64 a0 32,32)) else(some (a0,0))):Option (Int×Int)).bind λx1=>
 ((if 65536≤x1.1 then((ck (x1.2+16)).bind λx5=>
 some (ii .u64 x1.1 16,x5)) else(some (x1.1,x1.2))):Option (Int×Int)).bind λx3=>
 ((if 256≤x3.1 then((ck (x3.2+8)).bind λx8=>
 some (ii .u64 x3.1 8,x8)) else(some (x3.1,x3.2))):Option (Int×Int)).bind λx6=>
 (DK MK (IntKind.u8.wrap x6.1)).bind λx9=>
 (ck (x9.toNat:Int)).bind λe=>
 (ck (x6.2+e)).bind λc=>
 some c
theorem rL(k:Nat)(a0:Int)(r:Int)(h:lr k a0=some r):
 cP Tryz.prog 167 [.eq (.int .u64 a0)] [] (λ_:Unit=>(bu [I r],[])):=by
 unfold lr at h
 replace h:=aS h
 refine cP.of 25 Tryz.func167 rfl Tryz.ntmps167 rfl λS w0=>?_
 refine sr ?_
 refine cq ?_
 refine nt ?_
 refine aE (Z:=Unit) (α:=Int×Int) (λz2 x1=>[(0,.eq (.int .u64 x1.1)),(2,I x1.2)]) (λz2 x1=>[]) h (λK h=>?_) (λz2 x1 h=>?_)
 .
  refine sr (mq ?_);refine jb (iQ rfl) ?_;refine nt (ci h (λh=>?_) (λh=>?_))
  .refine sr (mq ?_);refine cp rfl (vE rfl (by decide)) ⟨rfl,rfl,trivial⟩ ?_;refine aq (nt (ae ?_));refine cq (nl ?_);exact jz ((),(ii .u64 a0 32,32)) h []
  .refine aZ (ax ?_);exact jz ((),(a0,0)) h []
 .
  refine aE (Z:=Unit) (α:=Int×Int) (λz4 x3=>[(0,.eq (.int .u64 x3.1)),(2,I x3.2)]) (λz4 x3=>[]) h (λK h=>?_) (λz4 x3 h=>?_)
  .refine sr (mq ?_);refine jb (iQ rfl) ?_;refine nt (ci h (λh=>?_) (λh=>?_))
   .refine sr (mq ?_);refine cp rfl (vE rfl (by decide)) ⟨rfl,rfl,trivial⟩ ?_;refine aq (nt (ae ?_));refine mq ?_;obtain⟨x5,n,h⟩:=aa h;refine jb (bi rfl n) ?_;refine aq (nl ?_);exact jz ((),(ii .u64 x1.1 16,x5)) h []
   .refine aZ (ax ?_);exact jz ((),(x1.1,x1.2)) h []
  .refine aE (Z:=Unit) (α:=Int×Int) (λz7 x6=>[(0,.eq (.int .u64 x6.1)),(2,I x6.2)]) (λz7 x6=>[]) h (λK h=>?_) (λz7 x6 h=>?_)
   .refine sr (mq ?_);refine jb (iQ rfl) ?_;refine nt (ci h (λh=>?_) (λh=>?_))
    .refine sr (mq ?_);refine cp rfl (vE rfl (by decide)) ⟨rfl,rfl,trivial⟩ ?_;refine aq (nt (ae ?_));refine mq ?_;obtain⟨x8,l,h⟩:=aa h;refine jb (bi rfl l) ?_;refine aq (nl ?_);exact jz ((),(ii .u64 x3.1 8,x8)) h []
    .refine aZ (ax ?_);exact jz ((),(x3.1,x3.2)) h []
   .refine sr ?_;iterate 2 refine mq ?_
    refine ja (tA rfl Un U5) ?_;obtain⟨x9,j,h⟩:=aa h;refine ja (AT rfl U9 j) ?_;obtain⟨u,e,h⟩:=aa h;refine ja (AU rfl U5 U3 e) ?_;obtain⟨s,c,h⟩:=aa h;refine jb (bi rfl c) ?_;refine aq (nt (aA ?_));cases h;exact ra
def qE(k:Nat)(a0:Int):Option Int:=
 (lr k a0).bind λr1=>
 some r1
theorem D7(k:Nat)(a0:Int)(r:Int)(h:qE k a0=some r):
 cP Tryz.prog 156 [.eq (.int .u64 a0)] [] (λ_:Unit=>(bu [I r],[])):=by
 unfold qE at h
 replace h:=aS h
 refine cP.of 8 Tryz.func156 rfl Tryz.ntmps156 rfl λS w0=>?_
 refine sr ?_
 refine cq ?_
 refine nt ?_
 refine aj ?_
 refine Kt (λhb=>(by cases hb)) (λhb=>?_)
 refine sk ?_
 refine sr ?_
 refine mq ?_
 obtain⟨r1,c,h⟩:=aa h
 have e:=rL k a0 r1 c
 refine ja (av [.tmp 6] rfl rfl Tf rfl e) ?_
 refine aq ?_
 refine nt ?_
 refine aA ?_
 cases h
 exact ra
def cK(k:Nat)(a0:(List Int))(a1:Int)(a2:Int)(a3:Int):Nat->Unit->Option (List Int)
 |0,_=>none
 |n+1,y1=>
  (ck (a2 - a1)).bind λx3=>
  if x3≤12 then((bY k a0 a1 a2).bind λr4=>
  some r4) else(if a3=0 then(none) else(none))
def c8(k:Nat)(a0:(List Int))(a1:Int)(a2:Int)(a3:Int):Option (List Int):=
 cK k a0 a1 a2 a3 k ()
theorem mN(k:Nat)(a0:(List Int))(c:Value)(a1:Int)(a2:Int)(a3:Int)(r:(List Int))(h:c8 k a0 a1 a2 a3=some r):
 cP Tryz.prog 155 [.eq c,I a1,I a2,I a3] [.sl c 3 Ti a0] (λ_:Unit=>(bu [],[.sl c 3 Ti r])):=by
 unfold c8 at h
 replace h:=aS h
 refine cP.of 134 Tryz.func155 rfl Tryz.ntmps155 rfl λS w0=>?_
 refine sr ?_
 refine cq ?_
 refine nt ?_
 refine sr ?_
 refine cq ?_
 refine nt ?_
 refine ai ?_
 refine aD (λz2 y1=>[(0,.eq c),(1,I a1),(2,I a2),(3,I a3),(8,.eq (.bool true)),(9,.eq (.bool true))]) (λz2 y1=>[.sl c 3 Ti a0]) (cK k a0 a1 a2 a3) k () () (λ_=>rfl) h (SE.fin [0] ⟨rfl,rfl,rfl,rfl,rfl,rfl,trivial⟩ rfl) (λn z2 y1 h=>?_)
 unfold cK at h
 refine ai ?_
 refine sr ?_
 iterate 2 refine mq ?_
 obtain⟨x3,e,h⟩:=aa h
 refine jb (eC rfl e) ?_
 refine aq ?_
 refine nt ?_
 refine aj ?_
 refine sr ?_
 refine mq ?_
 refine jb (AS rfl) ?_
 refine nt ?_
 refine ci h (λh=>?_) (λh=>?_)
 .
  refine sr ?_;iterate 3 refine mq ?_
  obtain⟨r4,j,h⟩:=aa h;refine kc (av [.tmp 24,.tmp 25,.tmp 26] rfl rfl Tm rfl (jV k a0 c a1 a2 r4 j)) ?_;refine nt (rx (bb (bg (bb ?_))));cases h;exact aQ () [] 1 trivial rfl
 .
  refine sk (aj (sr (mq ?_)));refine jb (jG rfl) ?_;refine nt (ci h (λh=>?_) (λh=>?_))
  .cases h
  .cases h
def gh(k:Nat)(a0:(List Int)):Option (List Int):=
 (qE k (IntKind.u64.wrap (a0.length:Int))).bind λr1=>
 (c8 k a0 0 (a0.length:Int) r1).bind λr2=>
 some r2
theorem uF(k:Nat)(a0:(List Int))(c:Value)(r:(List Int))(h:gh k a0=some r):
 cP Tryz.prog 142 [.eq c] [.sl c 3 Ti a0] (λ_:Unit=>(bu [],[.sl c 3 Ti r])):=by
 unfold gh at h
 replace h:=aS h
 refine cP.of 11 Tryz.func142 rfl Tryz.ntmps142 rfl λS w0=>?_
 refine sr ?_
 refine mq ?_
 refine ka (nN rfl rfl gG) ?_
 refine aq ?_
 refine nt ?_
 refine ae ?_
 iterate 3 refine mq ?_
 refine ja (tA rfl U3 VK) ?_
 obtain⟨r1,j,h⟩:=aa h
 have n:=D7 k (IntKind.u64.wrap (a0.length:Int)) r1 j
 refine ja (av [.tmp 8] rfl rfl Tn rfl n) ?_
 obtain⟨r2,e,h⟩:=aa h
 have l:=mN k a0 c 0 (a0.length:Int) r1 r2 e
 refine nz rfl rfl rfl (av [.tmp 5,.const (.int .i64 (0)),.tmp 6,.tmp 9] rfl rfl To rfl l) ⟨rfl,rfl,rfl,rfl,trivial⟩ ?_
 refine aG ?_
 refine kZ ?_
 cases h
 exact aQ () [] 1 trivial rfl
def cO(k:Nat)(a1:Int)(x3:(List (List Int))):Nat->Int->Option (Except (Int ⊕ (List Int)) Unit)
 |0,_=>none
 |n+1,y4=>
  if y4 < (x3.length:Int) then((aH x3 y4).bind λx6=>
  (gV k x6 a1).bind λr7=>
  if 0≤r7 then(((if 0 < r7 then((ck (r7 - 1)).bind λs=>
  (aH x6 s).bind λe=>
  (bR (be (length ([]:(List Int))+length [e]))).bind λ_=>
  some (([]:(List Int))++[e])) else(some ([]:(List Int)))):Option ((List Int))).bind λx8=>
  (((ck (r7+1)).bind λl=>
  if l < (x6.length:Int) then((ck (r7+1)).bind λj=>
  (aH x6 j).bind λc=>
  (bR (be (length x8+length [c]))).bind λ_=>
  some (x8++[c])) else(some x8)):Option ((List Int))).bind λr=>
  (gh k r).bind λu=>
  some (.error (Sum.inr u:(Int ⊕ (List Int))))) else((ck (y4+1)).bind λh=>
  cO k a1 x3 n h)) else(some (.ok ()))
def eF(k:Nat):Nat->ab->Int->Int->Option ((Int ⊕ (List Int)))
 |0,_,_,_=>none
 |m0+1,a0,a1,a2=>
  bE (α:=Unit) ((aH a0.2.2.2.2.1 a2).bind λx3=>
  cO k a1 x3 k 0) (some) λ_=>
  ((if 0 < a2 then((ck (a2 - 1)).bind λh=>
  ((eF k m0) a0 a1 h).bind λc=>
  if LA c=true then((ck (1+(Rt c))).bind λe=>
  some e) else(some 1)) else(some 1)):Option (Int)).bind λj=>
  some (Sum.inl j:(Int ⊕ (List Int)))
theorem ml{M:Md Tryz.prog}{bm:Nat}{c0 c1 c2 c3 c4 c5:Value}(hK:Kn M bm 0 [c0,c1,c2,c3,c4,c5])(k:Nat):
 ∀(n:Nat) (a0:ab) (a1:Int) (a2:Int) (r:(Int ⊕ (List Int))),eF k n a0 a1 a2=some r->cu M 115 [.rep (.mo (Pv bm) [c0,c1,c2,c3,c4,c5] am) a0,I a1,I a2] ([]) (λ_:Unit=>(bu [.rep (.pl 163 165 Tl) r],[])):=by
 intro n
 induction n with
 |zero=>intro a0 a1 a2 r h;cases h
 |succ m0 ih=>
  intro a0 a1 a2 r h;rw [eF] at h;replace h:=aS h;refine cu.of 80 Tryz.func115 rfl Tryz.ntmps115 rfl λS w0=>?_;refine sr (cq (nt ?_));refine cR (Z:=Unit) (α:=Unit) (λz2 x1=>[(0,.rep (.mo (Pv bm) [c0,c1,c2,c3,c4,c5] am) a0),(1,I a1),(2,I a2)]) (λz2 x1=>[]) (λe=>e=r) h (λe h=>Option.some.inj h) (λK hR h=>?_) (λz2 x1 h=>?_)
  .refine sr (mq ?_);refine ja (mg rfl) ?_;refine ja (ir rfl iI) ?_;refine ja (jk 1 false rfl cf rfl rfl) ?_;refine ja (jZ (t:=(.slice (.slice Tl))) rfl fG (hK.sub 4 1 rfl (le_of_ble_eq_true rfl)) rfl rfl) ?_;refine mq ?_;obtain⟨x3,Wu,h⟩:=aa h;refine jb (aC (t:=(.slice Tl)) rfl pU kF Wu) ?_;refine ja (an (t:=(.slice Tl)) rfl kF rfl) ?_;refine ol oa ?_;refine fM rfl ?_;refine nt (ai (aD (λz5 y4=>[(0,.rep (.mo (Pv bm) [c0,c1,c2,c3,c4,c5] am) a0),(1,I a1),(2,I a2),(21,.rep (.slice Tl) x3),(22,I (x3.length:Int)),(23,I y4)]) (λz5 y4=>[]) (cO k a1 x3) k () 0 (λ_=>rfl) h (SE.fin [] ⟨rfl,rfl,rfl,rfl,rfl,rfl,trivial⟩ rfl) (λn z5 y4 h=>?_)));unfold cO at h;refine sr (jb (bp rfl) ?_);refine nt (aj (ci h (λh=>?_) (λh=>?_)))
   .refine sk (aj (ai (sr ?_)));obtain⟨x6,Wt,h⟩:=aa h;refine jb (aC (t:=Tl) rfl oa eR Wt) ?_;refine ja (an (t:=Tl) rfl eR rfl) ?_;refine aq (nt (sr ?_));iterate 2 refine mq ?_
    obtain⟨r7,Wv,h⟩:=aa h;refine jb (av [.tmp 27,.tmp 28] rfl rfl SZ rfl (nH k x6 a1 r7 Wv)) ?_;refine aq (nt (sr ?_));refine mq ?_;refine jb (iQ rfl) ?_;refine nt (ci h (λh=>?_) (λh=>?_))
    .refine sr (cq (nt ?_));refine aE (Z:=Value) (α:=(List Int)) (λz9 x8=>[(8,.rep Tl x6),(9,I r7),(10,.eq z9)]) (λz9 x8=>[.sl z9 3 Ti x8]) h (λK h=>?_) (λz9 x8 h=>?_)
     .refine sr (mq ?_);refine jb (jp rfl) ?_;refine nt (ci h (λh=>?_) (λh=>?_))
      .refine ae ?_;iterate 3 refine mq ?_
       obtain⟨Wz,U,h⟩:=aa h;refine jb (eC rfl U) ?_;obtain⟨x,Q,h⟩:=aa h;refine jb (aC (t:=Ti) rfl gG bW Q) ?_;refine ja (an (t:=Ti) rfl bW rfl) ?_;refine ja (aX (t:=Ti) [(.tmp 39,_)] [x] rfl rfl cY (.cons rfl .int .nil) rfl rfl) ?_;refine eE (SE.nil 3 Ti) ?_;obtain⟨WB,Y,h⟩:=aa h;refine cQ rfl rfl rfl (bq rfl rfl cY (ap Y)) ⟨rfl,rfl,trivial⟩ λWp=>?_;refine aq (nl ?_);exact jz (Wp,([]:(List Int))++[x]) h [0]
      .refine aZ (ax (bC (SE.nil 3 Ti) ?_));exact jz ((.slice none 0 0),([]:(List Int))) h [0]
     .refine aE (Z:=Value) (α:=(List Int)) (λc j=>[(10,.eq c)]) (λc j=>[.sl c 3 Ti j]) h (λK h=>?_) (λc j h=>?_)
      .refine sr (mq ?_);obtain⟨Wy,O,h⟩:=aa h;refine jb (bi rfl O) ?_;refine mq ?_;refine ol gG ?_;refine jb (bp rfl) ?_;refine nt (ci h (λh=>?_) (λh=>?_))
       .refine ae ?_;iterate 3 refine mq ?_
        obtain⟨Wx,J,h⟩:=aa h;refine jb (bi rfl J) ?_;obtain⟨u,F,h⟩:=aa h;refine jb (aC (t:=Ti) rfl gG bW F) ?_;refine ja (an (t:=Ti) rfl bW rfl) ?_;refine ja (aX (t:=Ti) [(.tmp 52,_)] [u] rfl rfl cY (.cons rfl .int .nil) rfl rfl) ?_;obtain⟨WA,X,h⟩:=aa h;refine cQ rfl rfl rfl (bq rfl rfl cY (ap X)) ⟨rfl,rfl,trivial⟩ λWn=>?_;refine aq (nl ?_);exact jz (Wn,x8++[u]) h [0]
       .refine aZ (ax ?_);exact jz (z9,x8) h [0]
      .refine sr (mq ?_);obtain⟨Ws,mc,h⟩:=aa h;refine ka (av [.tmp 55] rfl rfl Tu rfl (uF k j c Ws mc)) ?_;refine nt (sr (mq ?_));refine eE (gB [10,55,57] ⟨rfl,rfl,rfl,trivial⟩) ?_;refine ja (eH [(0,.tmp 57,_)] rfl Rx Oh Qu (kH ⟨rfl,trivial⟩) rfl) ?_;refine ja (LI (t0:=163) (t:=Ti) rfl VI) ?_;refine aq (nt (aA (br (bb (bg ?_)))));obtain rfl:=hR _ h;exact ra
    .refine aZ (aK (tn (ae ?_)));obtain⟨zz,E,h⟩:=aa h;refine jb (bi rfl E) ?_;refine mq (nl ?_);exact jz ((),zz) h []
   .refine xa ?_;exact jz ((),()) h []
  .refine sr (cq (nt ?_));refine aE (Z:=Unit) (α:=Int) (λs l=>[(11,I l)]) (λs l=>[]) h (λK h=>?_) (λs l h=>?_)
   .refine sr (mq ?_);refine jb (jp rfl) ?_;refine nt (ci h (λh=>?_) (λh=>?_))
    .refine sr ?_;iterate 3 refine mq ?_
     obtain⟨qt,D,h⟩:=aa h;refine jb (eC rfl D) ?_;obtain⟨Wq,gw,h⟩:=aa h;refine jc (bj [.tmp 64,.tmp 65,.tmp 67] rfl rfl Jt rfl (ih a0 a1 qt Wq gw)) ?_;refine cp rfl (EE rfl HM (by decide)) ⟨rfl,trivial⟩ ?_;refine mq ?_;refine xr ?_;refine xr ?_;refine aY rfl rfl rfl (bA rfl Hh OR) trivial λWC=>?_;refine aP rfl rfl (aN rfl Ou trivial rfl rfl) ⟨rfl,rfl,trivial⟩ ?_;refine aq (nt (sr ?_));refine mq (nt ?_);refine cv h (λh=>?_) (λh=>?_)
     .refine ae (mq ?_);refine fl EZ ?_;refine lo bW ?_;obtain⟨mw,y,h⟩:=aa h;refine jb (bi rfl y) ?_;refine aq (nl ?_);exact jz ((),mw) h []
     .refine aZ (ax ?_);exact jz ((),1) h []
    .refine aZ (ax ?_);exact jz ((),1) h []
   .refine sr (mq ?_);refine ja (eH [(0,.tmp 77,_)] rfl Ry Hh Qv (kH ⟨rfl,trivial⟩) rfl) ?_;refine ja (LJ (t1:=165) (t:=Ti) rfl VJ) ?_;refine aq (nt (aA ?_));cases h;exact ra
def jh(k:Nat)(a0:OK):Option (List Int):=
 some ([]:(List Int))
theorem rF(k:Nat)(a0:OK)(r:(List Int))(h:jh k a0=some r):
 cP Tryz.prog 191 [.rep Rj a0] [] (λ_:Unit=>(bu [.rep Tl r],[])):=by
 unfold jh at h
 replace h:=aS h
 refine cP.of 3 Tryz.func191 rfl Tryz.ntmps191 rfl λS w0=>?_
 refine sr ?_
 refine bx λb1=>?_
 refine cq ?_
 refine nt ?_
 refine sr ?_
 refine cq ?_
 refine nt ?_
 refine aA ?_
 refine bC (dL (t:=Tl) (x:=([]:(List Int))) 2 rfl .nil rfl rfl) ?_
 cases h
 exact ra
def jf(k:Nat)(a0:OJ):Option (List Int):=
 some a0
theorem rA(k:Nat)(a0:OJ)(r:(List Int))(h:jf k a0=some r):
 cP Tryz.prog 192 [.rep Ri a0] [] (λ_:Unit=>(bu [.rep Tl r],[])):=by
 unfold jf at h
 replace h:=aS h
 refine cP.of 5 Tryz.func192 rfl Tryz.ntmps192 rfl λS w0=>?_
 refine sr ?_
 refine bx λb1=>?_
 refine cq ?_
 refine nt ?_
 refine sr ?_
 refine fl MX ?_
 refine lo eR ?_
 refine aq ?_
 refine nt ?_
 refine aA ?_
 cases h
 exact ra
def bZ(k:Nat)(a0:ab)(a1:(List Int))(r5:(List Int)):Nat->Int->Option (Except Int Unit)
 |0,_=>none
 |n+1,y6=>
  if y6 < (r5.length:Int) then((aH r5 y6).bind λx8=>
  (bR (0≤x8/\x8 < 5)).bind λ_=>
  (aH a1 x8).bind λe=>
  if(tZ 0 a0.2.1)≤e then(some (.error x8)) else((ck (y6+1)).bind λc=>
  bZ k a0 a1 r5 n c)) else(some (.ok ()))
def dK(k:Nat)(a0:ab)(a1:(List Int))(a2:Int)(a3:Int):Option Int:=
 bE (α:=Unit) ((eF k k a0 a2 a3).bind λr4=>
 (JF r4 (λn=>jh k n) (λl=>jf k l)).bind λr5=>
 bZ k a0 a1 r5 k 0) (some) λ_=>
 some (-1:Int)
theorem kM{M:Md Tryz.prog}{bm:Nat}{c0 c1 c2 c3 c4 c5:Value}(hK:Kn M bm 0 [c0,c1,c2,c3,c4,c5])(k:Nat)(a0:ab)(a1:(List Int))(a2:Int)(a3:Int)(r:Int)(h:dK k a0 a1 a2 a3=some r):
    cu M 105 [.rep (.mo (Pv bm) [c0,c1,c2,c3,c4,c5] am) a0,.rep Tr a1,.eq (.int .i64 a2),.eq (.int .i64 a3)] [] (λ_:Unit=>(bu [.eq (.int .i64 r)],[])):=by
  unfold dK at h
  replace h:=aS h
  refine cu.of 33 Tryz.func105 rfl Tryz.ntmps105 rfl λS w0=>?_
  refine aj ?_
  refine ae ?_
  refine aY rfl rfl rfl (xW rfl rfl) ⟨rfl,trivial⟩ λb1=>?_
  refine Fv rfl ?_
  refine aG ?_
  refine ax ?_
  show JC _ _ _ _ _
  refine cR (Z:=Unit) (α:=Unit) (λz3 x2=>[]) (λz3 x2=>[]) (λe=>e=r) h (λe h=>Option.some.inj h) (λK hR h=>?_) (λz3 x2 h=>?_)
  .
    refine aj ?_
    refine ae ?_
    refine iL rfl rfl ?_
    refine iL rfl rfl ?_
    refine iL rfl rfl ?_
    obtain⟨r4,D,h⟩:=aa h
    have E:=ml hK k k a0 a2 a3 r4 D
    refine cp rfl (bj [.tmp 11,.tmp 12,.tmp 13] rfl rfl Jt rfl E) ⟨rfl,rfl,rfl,trivial⟩ ?_
    obtain⟨r5,c,h⟩:=aa h
    refine cp rfl (LK (r:=.rep Tl r5) rfl rfl xj xi (λn hd=>.agI (rF k n r5 (by rw [hd] at c;exact c))) (λl hd=>.agS (rA k l r5 (by rw [hd] at c;exact c)))) ⟨rfl,trivial⟩ ?_
    refine cp rfl (pA rfl rfl gG) ⟨rfl,trivial⟩ ?_
    refine fM rfl ?_
    refine aG ?_
    refine ax ?_
    show JC _ _ _ _ _
    refine ai ?_
    refine aD (λz7 y6=>[(0,.rep (.mo (Pv bm) [c0,c1,c2,c3,c4,c5] am) a0),(5,.eq (Pv b1)),(15,.rep Tl r5),(16,.eq (.int .i64 (r5.length:Int))),(17,.eq (.int .i64 y6))]) (λz7 y6=>[.obj b1 82 (.rep Tr a1)]) (bZ k a0 a1 r5) k () 0 (λ_=>rfl) h (SE.fin [0] ⟨rfl,rfl,rfl,rfl,rfl,trivial⟩ rfl) (λn z7 y6 h=>?_)
    unfold bZ at h
    refine aj ?_
    refine ae ?_
    refine cp rfl (bp rfl) ⟨rfl,rfl,trivial⟩ ?_
    refine aG ?_
    refine ax ?_
    show JC _ _ _ _ _
    refine aj ?_
    refine jT rfl (λhb=>?_) (λhb=>?_)
    . replace h:=eh (wi hb) h
      refine aZ ?_
      refine ax ?_
      show JC _ _ _ _ _
      refine aj ?_
      refine ai ?_
      refine aj ?_
      refine ae ?_
      obtain⟨x8,y,h⟩:=aa h
      refine cp rfl (aC (t:=Ti) rfl gG bW y) ⟨rfl,rfl,trivial⟩ ?_
      refine cp rfl (an (t:=Ti) rfl bW rfl) ⟨rfl,trivial⟩ ?_
      refine wI rfl rfl ?_
      refine aG ?_
      refine ax ?_
      show JC _ _ _ _ _
      refine aj ?_
      refine bL ?_
      refine fW rfl rfl rfl (aW rfl) ⟨rfl,trivial⟩ ?_
      obtain⟨u9,u,h⟩:=aa h
      refine fW rfl rfl rfl (eu rfl Ee bW (ap u).1 (ap u).2) ⟨rfl,rfl,trivial⟩ ?_
      obtain⟨F,s,h⟩:=aa h
      refine zW 0 rfl rfl rfl rfl (oq (t:=Ti) (off:=0) (i:=x8) (N:=5) rfl bW (λ_=>rfl) rfl rfl rfl rfl s) ⟨rfl,trivial⟩ ?_
      refine fW rfl rfl rfl (aW rfl) ⟨rfl,trivial⟩ ?_
      refine fW rfl rfl rfl (mg rfl) ⟨rfl,trivial⟩ ?_
      refine fW rfl rfl rfl (ir rfl iI) ⟨rfl,trivial⟩ ?_
      refine fW rfl rfl rfl (jk 1 false rfl pQ rfl rfl) ⟨rfl,trivial⟩ ?_
      refine fW rfl rfl rfl (jZ (t:=Ti) rfl bW (hK.sub 1 1 rfl (le_of_ble_eq_true rfl)) rfl rfl) ⟨rfl,trivial⟩ ?_
      refine fW rfl rfl rfl (Iw rfl rfl) ⟨rfl,rfl,trivial⟩ ?_
      refine Ej (by kernel_rfl) cU ?_
      refine cp rfl (iQ rfl) ⟨rfl,rfl,trivial⟩ ?_
      refine aG ?_
      refine ax ?_
      show JC _ _ _ _ _
      refine jT rfl (λhb=>?_) (λhb=>?_)
      . replace h:=eh (wi hb) h
        refine aj ?_
        refine ae ?_
        refine iL rfl rfl ?_
        refine wI rfl rfl ?_
        refine aG ?_
        refine ax ?_
        show JC _ _ _ _ _
        refine aA ?_
        refine bb ?_
        refine bg ?_
        refine bg ?_
        refine bb ?_
        refine bg ?_
        obtain rfl:=hR _ h
        exact aQ () [_] 0 ⟨rfl,trivial⟩ rfl
      . replace h:=cH (wj hb) h
        refine aZ ?_
        refine aK ?_
        refine ax ?_
        show JC _ _ _ _ _
        refine ae ?_
        obtain⟨x,j,h⟩:=aa h
        refine cp rfl (bi rfl j) ⟨rfl,rfl,trivial⟩ ?_
        refine iL rfl rfl ?_
        refine aG ?_
        refine ax ?_
        exact wJ ((),x) h (SE.fin [0] ⟨rfl,rfl,rfl,rfl,rfl,trivial⟩ rfl)
    . replace h:=cH (wj hb) h
      refine fF ?_
      refine bK ?_
      refine bK ?_
      refine c6 ?_
      refine ax ?_
      exact wJ ((),()) h (SE.fin [] trivial rfl)
  .
    refine aj ?_
    refine ae ?_
    refine Fv rfl ?_
    refine aG ?_
    refine ax ?_
    show JC _ _ _ _ _
    refine aA ?_
    obtain rfl:=Option.some.inj h
    exact aQ () [_] 0 ⟨rfl,trivial⟩ rfl
def cF(k:Nat)(a0:ab)(a1:(List Int))(a2:Int):Nat->((List Int)×Int)->Option (List Int)
 |0,_=>none
 |n+1,y6=>
  if y6.2 < a0.1 then((((eF k k a0 y6.2 a2).bind λc=>
  if LA c=true then(if a0.2.2.2.1≤(Rt c) then((bR (0≤y6.2/\y6.2 < 5)).bind λ_=>
  some (List.set y6.1 (Int.toNat y6.2) (-1:Int))) else(some y6.1)) else(if¬(LA c=true) then((bR (0≤y6.2/\y6.2 < 5)).bind λ_=>
  (aH a1 y6.2).bind λl=>
  if 0≤l then((bR (0≤y6.2/\y6.2 < 5)).bind λ_=>
  (aH a1 y6.2).bind λj=>
  (ck (j+1)).bind λh=>
  (bR (0≤y6.2/\y6.2 < 5)).bind λ_=>
  some (List.set y6.1 (Int.toNat y6.2) h)) else((dK k a0 a1 y6.2 a2).bind λr=>
  if 0≤r then((bR (0≤y6.2/\y6.2 < 5)).bind λ_=>
  some (List.set y6.1 (Int.toNat y6.2) 0)) else(some y6.1))) else(some y6.1))):Option ((List Int))).bind λx8=>
  (ck (y6.2+1)).bind λe=>
  cF k a0 a1 a2 n (x8,e)) else(some y6.1)
def iv(k:Nat)(a0:ab)(a1:(List Int))(a2:Int):Option (List Int):=
 ((cF k a0 a1 a2 k (a1,0)):Option ((List Int))).bind λx4=>
 some x4
theorem sM{M:Md Tryz.prog}{bm:Nat}{c0 c1 c2 c3 c4 c5:Value}(hK:Kn M bm 0 [c0,c1,c2,c3,c4,c5])(k:Nat)(a0:ab)(a1:(List Int))(a2:Int)(r:(List Int))(h:iv k a0 a1 a2=some r):
 cu M 95 [.rep (.mo (Pv bm) [c0,c1,c2,c3,c4,c5] am) a0,.rep Tr a1,I a2] [] (λ_:Unit=>(bu [.rep Tr r],[])):=by
 unfold iv at h
 replace h:=aS h
 refine cu.of 60 Tryz.func95 rfl Tryz.ntmps95 rfl λS w0=>?_
 refine sr ?_
 refine bx λb1=>?_
 refine aY rfl rfl rfl (bA rfl KN NG) trivial λb2=>?_
 refine nt ?_
 refine sr ?_
 refine fr 1 ?_
 refine lo jU ?_
 refine aY rfl rfl rfl (bA rfl KN NG) trivial λb3=>?_
 refine aP rfl rfl (aN rfl jU rfl rfl rfl) ⟨rfl,rfl,trivial⟩ ?_
 refine nt ?_
 refine aE (Z:=Unit) (α:=(List Int)) (λz5 x4=>[(6,Pt b2),(7,Pt b3)]) (λz5 x4=>[.obj b2 82 (.rep Tr [0,0,0,0,0]),.obj b3 82 (.rep Tr x4)]) h (λK h=>?_) (λz5 x4 h=>?_)
 .
  refine sr (mq ?_);refine ja (mg rfl) ?_;refine ja (ir rfl iI) ?_;refine ja (jk 1 false rfl fK rfl rfl) ?_;refine ja (jZ (t:=Ti) rfl bW (hK.sub 0 1 rfl (le_of_ble_eq_true rfl)) rfl rfl) ?_;refine fM rfl ?_;refine nt (ai (aD (λz7 y6=>[(0,.rep (.mo (Pv bm) [c0,c1,c2,c3,c4,c5] am) a0),(2,I a2),(4,Pt b1),(6,Pt b2),(7,Pt b3),(16,I a0.1),(17,I y6.2)]) (λz7 y6=>[.obj b1 82 (.rep Tr a1),.obj b2 82 (.rep Tr [0,0,0,0,0]),.obj b3 82 (.rep Tr y6.1)]) (cF k a0 a1 a2) k () (a1,0) (λ_=>rfl) h (SE.fin [1,2,0] ⟨rfl,rfl,rfl,rfl,rfl,rfl,rfl,trivial⟩ rfl) (λn z7 y6 h=>?_)));unfold cF at h;refine sr (jb (bp rfl) ?_);refine nt (aj (ci h (λh=>?_) (λh=>?_)))
  .refine sk (aE (Z:=Unit) (α:=(List Int)) (λz9 x8=>[(0,.rep (.mo (Pv bm) [c0,c1,c2,c3,c4,c5] am) a0),(2,I a2),(4,Pt b1),(6,Pt b2),(7,Pt b3),(16,I a0.1),(17,I y6.2)]) (λz9 x8=>[.obj b1 82 (.rep Tr a1),.obj b2 82 (.rep Tr [0,0,0,0,0]),.obj b3 82 (.rep Tr x8)]) h (λK h=>?_) (λz9 x8 h=>?_))
   .refine ai (sr (mq ?_));refine aq (nt (sr ?_));iterate 3 refine mq ?_
    obtain⟨U,F,h⟩:=aa h;refine jc (bj [.tmp 20,.tmp 21,.tmp 22] rfl rfl Jt rfl (ml hK k k a0 y6.2 a2 U F)) ?_;refine nt (ai (sr (cp rfl (EE rfl HM (by decide)) ⟨rfl,trivial⟩ ?_)));refine xr ?_;refine xr ?_;refine nt (cv h (λh=>?_) (λh=>?_))
    .refine sr (aY rfl rfl rfl (bA rfl Hh OR) trivial λWn=>?_);refine aP rfl rfl (aN rfl Ou trivial rfl rfl) ⟨rfl,rfl,trivial⟩ ?_;refine nt (aj (bL ?_));refine da (au rfl EZ) ?_;refine ea 0 (ao rfl bW jr rfl) ?_;refine dm ?_;refine da (mg rfl) ?_;refine da (ir rfl iI) ?_;refine da (jk 1 false rfl t6 rfl rfl) ?_;refine da (jZ (t:=Ti) rfl bW (hK.sub 3 1 rfl (le_of_ble_eq_true rfl)) rfl rfl) ?_;refine df cU ?_;refine jb (iQ rfl) ?_;refine nt (ci h (λh=>?_) (λh=>?_))
     .refine ae (mq ?_);obtain⟨qt,j,h⟩:=aa h;refine jb (eu rfl Ee bW (ap j).1 (ap j).2) ?_;refine fr 3 ?_;refine aP rfl rfl (ip (t:=Ti) (off:=0) (i:=y6.2) (N:=5) rfl bW .int rfl rfl rfl rfl (ap j).1 (ap j).2 rfl) ⟨rfl,rfl,trivial⟩ ?_;refine aG (aK (bn ?_));exact jz ((),List.set y6.1 (Int.toNat y6.2) (-1:Int)) h [2,3,0]
     .refine aZ (aK (bn ?_));exact jz ((),y6.1) h [1,2,3]
    .refine sr (cp rfl (LO rfl Pg (by decide)) ⟨rfl,trivial⟩ ?_);refine xr ?_;refine xr ?_;refine nt (cw h (λh=>?_) (λh=>?_))
     .refine sr (aY rfl rfl rfl (bA rfl Oh TP) trivial λzz=>?_);refine aP rfl rfl (aN rfl Rm trivial rfl rfl) ⟨rfl,rfl,trivial⟩ ?_;refine nt (sr (mq ?_));obtain⟨mw,s,h⟩:=aa h;refine jb (eu rfl Ee bW (ap s).1 (ap s).2) ?_;obtain⟨Y,D,h⟩:=aa h;refine fr 1 ?_;refine ka (oq (t:=Ti) (off:=0) (i:=y6.2) (N:=5) rfl bW (λ_=>rfl) rfl rfl rfl rfl D) ?_;refine jb (iQ rfl) ?_;refine nt (ci h (λh=>?_) (λh=>?_))
      .refine ae ?_;iterate 2 refine mq ?_
       obtain⟨u16,l,h⟩:=aa h;refine jb (eu rfl Ee bW (ap l).1 (ap l).2) ?_;obtain⟨X,y,h⟩:=aa h;refine ka (oq (t:=Ti) (off:=0) (i:=y6.2) (N:=5) rfl bW (λ_=>rfl) rfl rfl rfl rfl y) ?_;obtain⟨O,x,h⟩:=aa h;refine jb (bi rfl x) ?_;obtain⟨mc,e,h⟩:=aa h;refine jb (eu rfl Ee bW (ap e).1 (ap e).2) ?_;refine fr 3 ?_;refine aP rfl rfl (ip (t:=Ti) (off:=0) (i:=y6.2) (N:=5) rfl bW .int rfl rfl rfl rfl (ap e).1 (ap e).2 rfl) ⟨rfl,rfl,trivial⟩ ?_;refine aG (aK (bn ?_));exact jz ((),List.set y6.1 (Int.toNat y6.2) O) h [1,3,0]
      .refine sr (mq ?_);refine lo jU ?_;iterate 2 refine mq ?_
       obtain⟨Q,E,h⟩:=aa h;refine cp rfl (bj [.tmp 50,.tmp 51,.tmp 52,.tmp 53] rfl rfl OG rfl (kM hK k a0 a1 y6.2 a2 Q E)) ⟨rfl,rfl,rfl,rfl,trivial⟩ ?_;refine jb (iQ rfl) ?_;refine nt (ci h (λh=>?_) (λh=>?_))
       .refine ae (mq ?_);obtain⟨gw,c,h⟩:=aa h;refine jb (eu rfl Ee bW (ap c).1 (ap c).2) ?_;refine fr 3 ?_;refine aP rfl rfl (ip (t:=Ti) (off:=0) (i:=y6.2) (N:=5) rfl bW .int rfl rfl rfl rfl (ap c).1 (ap c).2 rfl) ⟨rfl,rfl,trivial⟩ ?_;refine aG (aK (bn ?_));exact jz ((),List.set y6.1 (Int.toNat y6.2) 0) h [1,3,0]
       .refine aZ (aK (bn ?_));exact jz ((),y6.1) h [0,2,3]
     .refine aZ (aK (bn ?_));exact jz ((),y6.1) h [0,1,2]
   .refine ae ?_;obtain⟨J,u,h⟩:=aa h;refine jb (bi rfl u) ?_;refine mq (nl ?_);exact jz ((),(x8,J)) h [0,1,2]
  .refine xa ?_;exact jz ((),y6.1) h [1,2]
 .
  refine sr (fr 1 ?_);refine lo jU ?_;refine fr 1 ?_;refine aP rfl rfl (aN rfl jU rfl rfl rfl) ⟨rfl,rfl,trivial⟩ ?_;refine nt (aA ?_);obtain rfl:=Option.some.inj h;exact aQ () [.rep Tr x4] 0 ⟨⟨_,_,_,_,_,rfl,(.head _),jU,(qp),rfl⟩,trivial⟩ rfl
def nu(k:Nat)(a0:List Int):Option (List Int):=
 (bR (be (length a0))).bind λ_=>some a0
theorem tg(k:Nat)(a0:List Int)(r:List Int)(h:nu k a0=some r):
 cP Tryz.prog 50 [.rep Tl a0] [] (λz:Value=>(bu [.eq z],[.sl z 3 Ti r])):=by
 unfold nu at h
 replace h:=aS h
 refine cP.of 8 Tryz.func50 rfl Tryz.ntmps50 rfl λS w0=>?_
 obtain⟨u1,c,h⟩:=aa h
 cases h
 refine sr ?_
 refine cq ?_
 refine nt ?_
 refine aj ?_
 refine sr ?_
 refine mq ?_
 refine aO (Δ:=[]) (F:=_) (λ_ _ _=>ah rfl _) rfl rfl (LM rfl gG) ⟨rfl,rfl,trivial⟩ λb=>?_
 refine nt ?_
 refine jT rfl (λhb=>?_) (λhb=>?_)
 .
  refine sr (cq (nt (rx ?_)));obtain rfl:=b.2 hb;refine bC (SE.nil 3 Ti) ?_;exact aQ (.slice none 0 0) [.eq (.slice none 0 0)] 1 ⟨rfl,trivial⟩ rfl
 .
  refine sk (sr (aY rfl rfl rfl (iq (t:=Ti) [] [] rfl rfl cY .nil rfl rfl) trivial λv1=>?_));refine mq ?_;refine cQ rfl rfl rfl (bq rfl rfl cY (by simpa using ap c)) ⟨rfl,rfl,trivial⟩ λv2=>?_;refine aq (nt (aA ?_));exact aQ v2 [.eq v2] 1 ⟨rfl,trivial⟩ rfl
def dS(k:Nat)(a0:(List Int))(a1:(List Int)):Nat->Int->Option (Except Bool Unit)
 |0,_=>none
 |n+1,y3=>
  if y3 < (a0.length:Int) then((aH a0 y3).bind λx5=>
  (aH a1 y3).bind λx6=>
  if¬(x5=x6) then(some (.error false)) else((ck (y3+1)).bind λx7=>
  dS k a0 a1 n x7)) else(some (.ok ()))
def fD(k:Nat)(a0:(List Int))(a1:(List Int)):Option Bool:=
 if¬((a0.length:Int)=(a1.length:Int)) then(some false) else(bE (α:=Unit) (dS k a0 a1 k 0) (some) λ_=>
 some true)
theorem ji(k:Nat)(a0:(List Int))(a1:(List Int))(r:Bool)(h:fD k a0 a1=some r):
 cP Tryz.prog 23 [.rep Tl a0,.rep Tl a1] [] (λ_:Unit=>(bu [.eq (.bool r)],[])):=by
 unfold fD at h
 replace h:=aS h
 refine cP.of 26 Tryz.func23 rfl Tryz.ntmps23 rfl λS w0=>?_
 refine sr ?_
 refine cq ?_
 refine nt ?_
 refine aj ?_
 refine sr ?_
 refine mq ?_
 refine ol gG ?_
 refine mq ?_
 refine ol gG ?_
 refine jb (dV rfl) ?_
 refine nt ?_
 refine cn h (λh=>?_) (λh=>?_)
 .
  refine sr (cq (nt (rx ?_)));cases h;exact ra
 .
  refine sk (cR (Z:=Unit) (α:=Unit) (λz2 x1=>[]) (λz2 x1=>[]) (λe=>e=r) h (λe h=>Option.some.inj h) (λK hR h=>?_) (λz2 x1 h=>?_))
  .refine sr (cq (nt (ai ?_)));refine aD (λz4 y3=>[(0,.rep Tl a0),(1,.rep Tl a1),(5,I y3)]) (λz4 y3=>[]) (dS k a0 a1) k () 0 (λ_=>rfl) h (SE.fin [] ⟨rfl,rfl,rfl,trivial⟩ rfl) (λn z4 y3 h=>?_);unfold dS at h;refine aj (sr ?_);iterate 2 refine mq ?_
   refine ol gG ?_;refine jb (bp rfl) ?_;refine nt (ci h (λh=>?_) (λh=>?_))
   .refine sk (aj (ai (aj (bL ?_))));refine dm ?_;refine dm ?_;obtain⟨x5,l,h⟩:=aa h;refine db (aC (t:=Ti) rfl gG bW l) ?_;refine da (an (t:=Ti) rfl bW rfl) ?_;refine dm ?_;refine dm ?_;obtain⟨x6,j,h⟩:=aa h;refine db (aC (t:=Ti) rfl gG bW j) ?_;refine da (an (t:=Ti) rfl bW rfl) ?_;refine df cU ?_;refine jb (dV rfl) ?_;refine nt (cn h (λh=>?_) (λh=>?_))
    .refine sr (cq (nt (aA (br (bb (bg ?_))))));obtain rfl:=hR _ h;exact ra
    .refine aZ (aK (tn (ae (mq ?_))));obtain⟨x7,c,h⟩:=aa h;refine jb (bi rfl c) ?_;refine aq (nl ?_);exact jz ((),x7) h []
   .refine xa ?_;exact jz ((),()) h []
  .refine sr (cq (nt (aA ?_)));cases h;exact ra
def dG(k:Nat)(a0:(List (List Int)))(a1:(List (List Int))):Nat->Int->Option (Except Bool Unit)
 |0,_=>none
 |n+1,y3=>
  if y3 < (a0.length:Int) then((aH a0 y3).bind λx5=>
  (aH a1 y3).bind λx6=>
  (fD k x5 x6).bind λr7=>
  if¬(r7=true) then(some (.error false)) else((ck (y3+1)).bind λx8=>
  dG k a0 a1 n x8)) else(some (.ok ()))
def eg(k:Nat)(a0:(List (List Int)))(a1:(List (List Int))):Option Bool:=
 if¬((a0.length:Int)=(a1.length:Int)) then(some false) else(bE (α:=Unit) (dG k a0 a1 k 0) (some) λ_=>
 some true)
theorem iH(k:Nat)(a0:(List (List Int)))(a1:(List (List Int)))(r:Bool)(h:eg k a0 a1=some r):
 cP Tryz.prog 21 [.rep (.slice Tl) a0,.rep (.slice Tl) a1] [] (λ_:Unit=>(bu [.eq (.bool r)],[])):=by
 unfold eg at h
 replace h:=aS h
 refine cP.of 27 Tryz.func21 rfl Tryz.ntmps21 rfl λS w0=>?_
 refine sr ?_
 refine cq ?_
 refine nt ?_
 refine aj ?_
 refine sr ?_
 refine mq ?_
 refine ol oa ?_
 refine mq ?_
 refine ol oa ?_
 refine jb (dV rfl) ?_
 refine nt ?_
 refine cn h (λh=>?_) (λh=>?_)
 .
  refine sr (cq (nt (rx ?_)));cases h;exact ra
 .
  refine sk (cR (Z:=Unit) (α:=Unit) (λz2 x1=>[]) (λz2 x1=>[]) (λe=>e=r) h (λe h=>Option.some.inj h) (λK hR h=>?_) (λz2 x1 h=>?_))
  .refine sr (cq (nt (ai ?_)));refine aD (λz4 y3=>[(0,.rep (.slice Tl) a0),(1,.rep (.slice Tl) a1),(5,I y3)]) (λz4 y3=>[]) (dG k a0 a1) k () 0 (λ_=>rfl) h (SE.fin [] ⟨rfl,rfl,rfl,trivial⟩ rfl) (λn z4 y3 h=>?_);unfold dG at h;refine aj (sr ?_);iterate 2 refine mq ?_
   refine ol oa ?_;refine jb (bp rfl) ?_;refine nt (ci h (λh=>?_) (λh=>?_))
   .refine sk (aj (ai (aj (bL ?_))));refine dm ?_;refine dm ?_;obtain⟨x5,l,h⟩:=aa h;refine db (aC (t:=Tl) rfl oa eR l) ?_;refine da (an (t:=Tl) rfl eR rfl) ?_;refine dm ?_;refine dm ?_;obtain⟨x6,j,h⟩:=aa h;refine db (aC (t:=Tl) rfl oa eR j) ?_;refine da (an (t:=Tl) rfl eR rfl) ?_;refine df cU ?_;obtain⟨r7,s,h⟩:=aa h;refine jb (av [.tmp 20,.tmp 24] rfl rfl M6 rfl (ji k x5 x6 r7 s)) ?_;refine ja (eS rfl) ?_;refine nt (cw h (λh=>?_) (λh=>?_))
    .refine sr (cq (nt (aA (br (bb (bg ?_))))));obtain rfl:=hR _ h;exact ra
    .refine aZ (aK (tn (ae (mq ?_))));obtain⟨x8,c,h⟩:=aa h;refine jb (bi rfl c) ?_;refine aq (nl ?_);exact jz ((),x8) h []
   .refine xa ?_;exact jz ((),()) h []
  .refine sr (cq (nt (aA ?_)));cases h;exact ra
def dD{σ:Type}(k:Nat)(a0:Int)(a3:Int)(self:Int->Int->σ->Option (Bool×σ)):Nat->(Int×σ)->Option (Except (Bool×σ) (σ))
 |0,_=>none
 |n+1,y5=>
  if y5.1 < a3 then((gr k a0 y5.1).bind λr7=>
  (ck (y5.1+1)).bind λx8=>
  (self r7 x8 y5.2).bind λr9=>
  if¬(r9.1=true) then(some (.error (false,r9.2))) else((ck (y5.1+1)).bind λc=>
  dD k a0 a3 self n (c,r9.2))) else(some (.ok y5.2))
def dJ{σ:Type}(k:Nat)(Y:σ->Int->Option (σ×Bool))(a3:Int):Nat->Int->Int->σ->Option (Bool×σ)
 |0,_,_,_=>none
 |m0+1,a0,a1,s0=>
  (Y s0 a0).bind λr1=>
  if¬(r1.2=true) then(some (false,r1.1)) else(bE (α:=σ) (dD k a0 a3 (dJ k Y a3 m0) k (a1,r1.1)) (some) λx3=>
  some (true,x3))
theorem tK{M:Md Tryz.prog}{σ Z:Type}(E:Z->σ->List D)(l:Nat)(Y:σ->Int->Option (σ×Bool))(k:Nat)(u:Nat)(a3:Int)(j:Nat)(c:Nat)(hY:∀z s p r,Y s p=some r->YT M l [.eq (.int .u8 p)] (E z s) (λz':Z=>(.eq (.bool r.2),E z' r.1))):
 ∀(n:Nat) (a0:Int) (a1:Int) (z0:Z) (s0:σ) (r:Bool×σ),dJ k Y a3 n a0 a1 s0=some r->cu M 107 [.eq (.int .u8 a0),I a1,Pt u,Pt j,Pt c] ([.obj u 122 (.eq (.func (.yield l) #[] #[])),.obj j 3 (I a3),.obj c 121 (.eq (.func (.func 107) #[] #[(Pv u),(Pv j),(Pv c)]))]++E z0 s0) (λz:Z=>(bu [.eq (.bool r.1)],[.obj u 122 (.eq (.func (.yield l) #[] #[])),.obj j 3 (I a3),.obj c 121 (.eq (.func (.func 107) #[] #[(Pv u),(Pv j),(Pv c)]))]++E z r.2)):=by
 intro n
 induction n with
 |zero=>intro a0 a1 z0 s0 r h;cases h
 |succ m0 ih=>
  intro a0 a1 z0 s0 r h;rw [dJ] at h;replace h:=aS h;refine cu.of 27 Tryz.func107 rfl Tryz.ntmps107 rfl λS w0=>?_;refine sr (cq (nt (aj (sr ?_))));refine lo Rn ?_;refine mq ?_;obtain⟨r1,U,h⟩:=aa h;refine fr 2 ?_;refine fr 2 ?_;refine fr 2 ?_;refine J6 [.obj u 122 (.eq (.func (.yield l) #[] #[])),.obj j 3 (I a3),.obj c 121 (.eq (.func (.func 107) #[] #[(Pv u),(Pv j),(Pv c)]))] rfl rfl rfl (LF [.tmp 10] rfl rfl rfl (hY z0 s0 a0 r1 U)) ⟨rfl,rfl,trivial⟩ λz2=>?_;refine ja (eS rfl) ?_;refine nt (cw h (λh=>?_) (λh=>?_))
  .refine sr (cq (nt (rx ?_)));cases h;exact vc z2 [_] ⟨rfl,trivial⟩ rfl
  .refine sk (cR (Z:=Z) (α:=σ) (λz4 x3=>[]) (λz4 x3=>[.obj u 122 (.eq (.func (.yield l) #[] #[])),.obj j 3 (I a3),.obj c 121 (.eq (.func (.func 107) #[] #[(Pv u),(Pv j),(Pv c)]))]++E z4 x3) (λe=>e=r) h (λe h=>Option.some.inj h) (λK hR h=>?_) (λz4 x3 h=>?_))
   .refine sr (mq ?_);refine aq (nt (ai ?_));refine aD (Z:=Z) (α:=Int×σ) (λz6 y5=>[(0,.eq (.int .u8 a0)),(3,Pt j),(4,Pt c),(8,I y5.1)]) (λz6 y5=>[.obj j 3 (I a3),.obj c 121 (.eq (.func (.func 107) #[] #[(Pv u),(Pv j),(Pv c)])),.obj u 122 (.eq (.func (.yield l) #[] #[]))]++E z6 y5.2) (dD k a0 a3 (dJ k Y a3 m0)) k z2 (a1,r1.1) (λ_=>rfl) h (lJ [.obj u 122 (.eq (.func (.yield l) #[] #[])),.obj j 3 (I a3),.obj c 121 (.eq (.func (.func 107) #[] #[(Pv u),(Pv j),(Pv c)]))] (E z2 r1.1) [1,2,0] ⟨rfl,rfl,rfl,rfl,trivial⟩ rfl) (λn z6 y5 h=>?_);unfold dD at h;refine aj (sr (mq ?_));refine lo bW ?_;refine jb (bp rfl) ?_;refine nt (ci h (λh=>?_) (λh=>?_))
    .refine sk (aj (ai (aj (bL ?_))));refine ea 1 (ao rfl HQ jr rfl) ?_;refine dm ?_;refine dm ?_;obtain⟨r7,Q,h⟩:=aa h;refine db (av [.tmp 20,.tmp 21] rfl rfl Qh rfl (lq k a0 y5.1 r7 Q)) ?_;refine dm ?_;obtain⟨x8,J,h⟩:=aa h;refine db (bi rfl J) ?_;refine df cU ?_;obtain⟨r9,O,h⟩:=aa h;refine fr 1 ?_;refine fr 1 ?_;refine fr 2 ?_;refine Cb rfl rfl rfl (sF (fs:=[]) (cs:=[(Pv u),(Pv j),(Pv c)]) (ags:=[.eq (.int .u8 r7),I x8]) [.tmp 22,.tmp 24] rfl rfl OE rfl (ih r7 x8 z6 y5.2 r9 O)) ⟨rfl,rfl,rfl,trivial⟩ λx=>?_;refine ja (eS rfl) ?_;refine nt (cw h (λh=>?_) (λh=>?_))
     .refine sr (cq (nt (aA (br (bb (bg ?_))))));obtain rfl:=hR _ h;exact vc x [_] ⟨rfl,trivial⟩ rfl
     .refine aZ (aK (tn (ae (mq ?_))));obtain⟨F,y,h⟩:=aa h;refine jb (bi rfl y) ?_;refine aq (nl ?_);exact wJ (x,(F,r9.2)) h (lJ [.obj u 122 (.eq (.func (.yield l) #[] #[])),.obj j 3 (I a3),.obj c 121 (.eq (.func (.func 107) #[] #[(Pv u),(Pv j),(Pv c)]))] (E x r9.2) [1,2,0] ⟨rfl,rfl,rfl,rfl,trivial⟩ rfl)
    .refine xa ?_;exact wJ (z6,y5.2) h (lJ [.obj j 3 (I a3),.obj c 121 (.eq (.func (.func 107) #[] #[(Pv u),(Pv j),(Pv c)])),.obj u 122 (.eq (.func (.yield l) #[] #[]))] (E z6 y5.2) [2,0,1] trivial rfl)
   .refine sr (cq (nt (aA ?_)));cases h;exact vc z4 [_] ⟨rfl,trivial⟩ rfl
def kN{σ:Type}(k:Nat)(Y:σ->Int->Option (σ×Bool))(a1:Int)(s0:σ):Option (σ):=
 (dJ k Y a1 k 0 0 s0).bind λr3=>
 some r3.2
theorem pJ{M:Md Tryz.prog}{σ Z:Type}(E:Z->σ->List D)(l:Nat)(Y:σ->Int->Option (σ×Bool))(k:Nat)(a1:Int)(c:Nat)(hY:∀z s p r,Y s p=some r->YT M l [.eq (.int .u8 p)] (E z s) (λz':Z=>(.eq (.bool r.2),E z' r.1))):
 ∀(z0:Z) (s0:σ) (r:σ),kN k Y a1 s0=some r->cu M 106 [.eq (.func (.yield l) #[] #[]),Pt c] ([.obj c 3 (I a1)]++E z0 s0) (λz:Z=>(bu [],[.obj c 3 (I a1)]++E z r)):=by
 intro z0 s0 r h
 unfold kN at h
 replace h:=aS h
 refine cu.of 7 Tryz.func106 rfl Tryz.ntmps106 rfl λS w0=>?_
 refine sr ?_
 refine bx λb1=>?_
 refine nt ?_
 refine sr ?_
 refine aY rfl rfl rfl (bA rfl Q6 TR) trivial λb2=>?_
 refine nt ?_
 refine sr ?_
 refine jc (rm [] [.tmp 2,.tmp 1,.tmp 3] [] [(Pv b1),(Pv c),(Pv b2)] rfl rfl rfl) ?_
 refine aP rfl rfl (aN rfl HQ rfl rfl rfl) ⟨rfl,rfl,trivial⟩ ?_
 refine nt ?_
 refine ae ?_
 refine lo HQ ?_
 obtain⟨r3,e,h⟩:=aa h
 have j:=tK E l Y k b1 a1 c b2 hY k 0 0 z0 s0 r3 e
 refine fr 2 ?_
 refine fr 2 ?_
 refine Cb rfl rfl rfl (sF (fs:=[]) (cs:=[(Pv b1),(Pv c),(Pv b2)]) (ags:=[.eq (.int .u8 0),I 0]) [.const (.int .u8 (0)),.const (.int .i64 (0))] rfl rfl OE rfl j) ⟨rfl,rfl,rfl,trivial⟩ λz4=>?_
 refine aG ?_
 refine kZ ?_
 refine bC (lJ (Γ':=[]) [.obj b1 122 (.eq (.func (.yield l) #[] #[])),.obj c 3 (I a1),.obj b2 121 (.eq (.func (.func 107) #[] #[(Pv b1),(Pv c),(Pv b2)]))] (E z4 r3.2) [1] trivial rfl) ?_
 cases h
 exact vc z4 [] trivial rfl
theorem sO(a0:Int):cP Tryz.prog 84 [I a0] [] (λz:Nat=>(bu [.eq (.func (.func 106) #[] #[(Pv z)])],[.obj z 3 (I a0)])):=by
 refine cP.of 4 Tryz.func84 rfl Tryz.ntmps84 rfl λS w0=>?_;refine sr (bx λz=>?_);refine cq (nt (sr ?_));refine ja (rm [] [.tmp 1] [] [(Pv z)] rfl rfl rfl) ?_;refine aq (nt (aA ?_));exact aQ z [_] 1 ⟨rfl,trivial⟩ rfl
def jB(k:Nat)(a0:(List Int)):Nat->(Int×Int)->Option Int
 |0,_=>none
 |n+1,y4=>
  if y4.2 < (a0.length:Int) then((aH a0 y4.2).bind λx6=>
  (ck (y4.2+1)).bind λx7=>
  jB k a0 n (Jc y4.1 x6,x7)) else(some y4.1)
def mT(k:Nat)(a0:(List Int)):Option Int:=
 if(a0.length:Int) < 1 then(none) else((aH a0 0).bind λx1=>
 ((jB k a0 k (x1,1)):Option (Int)).bind λx2=>
 some x2)
theorem pj(k:Nat)(a0:(List Int))(r:Int)(h:mT k a0=some r):
 cP Tryz.prog 61 [.rep Tl a0] [] (λ_:Unit=>(bu [I r],[])):=by
 unfold mT at h
 replace h:=aS h
 refine cP.of 25 Tryz.func61 rfl Tryz.ntmps61 rfl λS w0=>?_
 refine sr ?_
 refine cq ?_
 refine nt ?_
 refine aj ?_
 refine sr ?_
 refine mq ?_
 refine ol gG ?_
 refine jb (bp rfl) ?_
 refine nt ?_
 refine ci h (λh=>?_) (λh=>?_)
 .
  cases h
 .
  refine sk (sr (mq ?_));obtain⟨x1,j,h⟩:=aa h;refine jb (aC (t:=Ti) rfl gG bW j) ?_;refine ja (an (t:=Ti) rfl bW rfl) ?_;refine aq (nt ?_);refine aE (Z:=Unit) (α:=Int) (λz3 x2=>[(3,I x2)]) (λz3 x2=>[]) h (λK h=>?_) (λz3 x2 h=>?_)
  .refine sr (cq (nt (ai ?_)));refine aD (λz5 y4=>[(0,.rep Tl a0),(3,I y4.1),(4,I y4.2)]) (λz5 y4=>[]) (jB k a0) k () (x1,1) (λ_=>rfl) h (SE.fin [] ⟨rfl,rfl,rfl,trivial⟩ rfl) (λn z5 y4 h=>?_);unfold jB at h;refine aj (sr ?_);iterate 2 refine mq ?_
   refine ol gG ?_;refine jb (bp rfl) ?_;refine nt (ci h (λh=>?_) (λh=>?_))
   .refine sk (aj (ai (ae ?_)));iterate 3 refine mq ?_
    obtain⟨x6,e,h⟩:=aa h;refine jb (aC (t:=Ti) rfl gG bW e) ?_;refine ja (an (t:=Ti) rfl bW rfl) ?_;refine jb (RE rfl rfl) ?_;refine aq (aG (aK (tn (ae ?_))));refine mq ?_;obtain⟨x7,c,h⟩:=aa h;refine jb (bi rfl c) ?_;refine aq (nl ?_);exact jz ((),(Jc y4.1 x6,x7)) h []
   .refine xa ?_;exact jz ((),y4.1) h []
  .refine sr (mq ?_);refine aq (nt (aA ?_));cases h;exact ra
def dQ(k:Nat)(a0:Int):Nat->((List Int)×Int)->Option (List Int)
 |0,_=>none
 |n+1,y3=>
  if y3.2 < 5 then((((fu k a0 y3.2).bind λr7=>
  if r7=true then((bR (be (length y3.1+length [y3.2]))).bind λ_=>
  some (y3.1++[y3.2])) else(some y3.1)):Option ((List Int))).bind λx5=>
  (ck (y3.2+1)).bind λc=>
  dQ k a0 n (x5,c)) else(some y3.1)
def eI(k:Nat)(a0:Int):Option (List Int):=
 ((dQ k a0 k (([]:(List Int)),0)):Option ((List Int))).bind λx1=>
 some x1
theorem gP(k:Nat)(a0:Int)(r:(List Int))(h:eI k a0=some r):
 cP Tryz.prog 69 [.eq (.int .u8 a0)] [] (λ_:Unit=>(bu [.rep Tl r],[])):=by
 unfold eI at h
 replace h:=aS h
 refine cP.of 17 Tryz.func69 rfl Tryz.ntmps69 rfl λS w0=>?_
 refine sr ?_
 refine cq ?_
 refine nt ?_
 refine sr ?_
 refine cq ?_
 refine nt ?_
 refine aE (Z:=Value) (α:=(List Int)) (λz2 x1=>[(3,.eq z2)]) (λz2 x1=>[.sl z2 3 Ti x1]) h (λK h=>?_) (λz2 x1 h=>?_)
 .
  refine sr (fM rfl ?_);refine nt (ai (iC (SE.nil 3 Ti) ?_));refine aD (λz4 y3=>[(0,.eq (.int .u8 a0)),(3,.eq z4),(5,I y3.2)]) (λz4 y3=>[.sl z4 3 Ti y3.1]) (dQ k a0) k (.slice none 0 0) (([]:(List Int)),0) (λ_=>rfl) h (SE.fin [0] ⟨rfl,rfl,rfl,trivial⟩ rfl) (λn z4 y3 h=>?_);unfold dQ at h;refine sr (jb (bp rfl) ?_);refine nt (aj (ci h (λh=>?_) (λh=>?_)))
  .refine sk (aE (Z:=Value) (α:=(List Int)) (λz6 x5=>[(0,.eq (.int .u8 a0)),(3,.eq z6),(5,I y3.2)]) (λz6 x5=>[.sl z6 3 Ti x5]) h (λK h=>?_) (λz6 x5 h=>?_))
   .refine ai (sr (mq ?_));refine aq (nt (sr ?_));iterate 2 refine mq ?_
    obtain⟨r7,l,h⟩:=aa h;refine jb (av [.tmp 8,.tmp 9] rfl rfl Jr rfl (iu k a0 y3.2 r7 l)) ?_;refine nt (cv h (λh=>?_) (λh=>?_))
    .refine ae ?_;iterate 2 refine mq ?_
     refine ja (aX (t:=Ti) [(.tmp 12,_)] [y3.2] rfl rfl cY (.cons rfl .int .nil) rfl rfl) ?_;obtain⟨u8,j,h⟩:=aa h;refine cQ rfl rfl rfl (bq rfl rfl cY (ap j)) ⟨rfl,rfl,trivial⟩ λv9=>?_;refine aq (aG (bn ?_));exact jz (v9,y3.1++[y3.2]) h [0]
    .refine aZ (bn ?_);exact jz (z4,y3.1) h [0]
   .refine ae ?_;obtain⟨e,c,h⟩:=aa h;refine jb (bi rfl c) ?_;refine mq (nl ?_);exact jz (z6,(x5,e)) h [0]
  .refine xa ?_;exact jz (z4,y3.1) h [0]
 .
  refine sr (mq ?_);refine aq (nt (aA ?_));refine bC (gB [2,3,16] ⟨rfl,rfl,rfl,trivial⟩) ?_;cases h;exact ra
def gi(k:Nat):Nat->((List Int)×Int×Int)->Option (List Int)
 |0,_=>none
 |n+1,y2=>
  if y2.2.1 < y2.2.2 then((aH y2.1 y2.2.2).bind λx4=>
  (aH y2.1 y2.2.1).bind λx5=>
  (aH y2.1 y2.2.1).bind λx6=>
  (aH (List.set y2.1 (Int.toNat y2.2.1) x4) y2.2.2).bind λx7=>
  (ck (y2.2.1+1)).bind λx8=>
  (ck (y2.2.2 - 1)).bind λx9=>
  gi k n (List.set (List.set y2.1 (Int.toNat y2.2.1) x4) (Int.toNat y2.2.2) x5,x8,x9)) else(some y2.1)
def lg(k:Nat)(a0:(List Int)):Option (List Int):=
 (ck ((a0.length:Int) - 1)).bind λx1=>
 gi k k (a0,0,x1)
theorem qZ(k:Nat)(a0:(List Int))(c:Value)(r:(List Int))(h:lg k a0=some r):
 cP Tryz.prog 80 [.eq c] [.sl c 3 Ti a0] (λ_:Unit=>(bu [],[.sl c 3 Ti r])):=by
 unfold lg at h
 replace h:=aS h
 refine cP.of 28 Tryz.func80 rfl Tryz.ntmps80 rfl λS w0=>?_
 refine sr ?_
 refine mq ?_
 refine ka (nN rfl rfl gG) ?_
 obtain⟨x1,mc,h⟩:=aa h
 refine jb (eC rfl mc) ?_
 refine cq ?_
 refine aq ?_
 refine nt ?_
 refine ai ?_
 refine aD (λz3 y2=>[(0,.eq c),(2,I y2.2.1),(3,I y2.2.2)]) (λz3 y2=>[.sl c 3 Ti y2.1]) (gi k) k () (a0,0,x1) (λ_=>rfl) h (SE.fin [0] ⟨rfl,rfl,rfl,trivial⟩ rfl) (λn z3 y2 h=>?_)
 unfold gi at h
 refine aj ?_
 refine sr ?_
 iterate 2 refine mq ?_
 refine jb (bp rfl) ?_
 refine nt ?_
 refine ci h (λh=>?_) (λh=>?_)
 .
  refine sk (aj (ai (qc ?_)));refine bT rfl rfl rfl (aW rfl) ⟨rfl,trivial⟩ ?_;refine bT rfl rfl rfl (aW rfl) ⟨rfl,trivial⟩ ?_;refine bT rfl rfl rfl (aW rfl) ⟨rfl,trivial⟩ ?_;refine bT rfl rfl rfl (aW rfl) ⟨rfl,trivial⟩ ?_;refine bT rfl rfl rfl (aW rfl) ⟨rfl,trivial⟩ ?_;refine bT rfl rfl rfl (aW rfl) ⟨rfl,trivial⟩ ?_;obtain⟨x4,D,h⟩:=aa h;refine hJ 0 rfl rfl rfl rfl (cI (t:=Ti) rfl gG bW D) ⟨rfl,rfl,trivial⟩ ?_;refine hJ 0 rfl rfl rfl rfl (gZ (i:=Int.toNat y2.2.2) (off:=0) rfl bW (λ_=>rfl) rfl (dM D).2.2 rfl) ⟨rfl,trivial⟩ ?_;refine bT rfl rfl rfl (aW rfl) ⟨rfl,trivial⟩ ?_;refine bT rfl rfl rfl (aW rfl) ⟨rfl,trivial⟩ ?_;obtain⟨x5,y,h⟩:=aa h;refine hJ 0 rfl rfl rfl rfl (cI (t:=Ti) rfl gG bW y) ⟨rfl,rfl,trivial⟩ ?_;refine hJ 0 rfl rfl rfl rfl (gZ (i:=Int.toNat y2.2.1) (off:=0) rfl bW (λ_=>rfl) rfl (dM y).2.2 rfl) ⟨rfl,trivial⟩ ?_;obtain⟨x6,x,h⟩:=aa h;refine hJ 0 rfl rfl rfl rfl (cI (t:=Ti) rfl gG bW x) ⟨rfl,rfl,trivial⟩ ?_;refine uk 13 [true,true,false,false,true,true,true,true,true,true,true,true,true] [27] [] [] rfl (by kernel_rfl) (by kernel_rfl) (by kernel_rfl) cU (λvs hv hB=>?_);obtain⟨w0,WC,rfl,Y⟩:=aF hv;obtain⟨w1,WB,rfl,X⟩:=aF Y;obtain⟨w2,WA,rfl,U⟩:=aF X;obtain⟨w3,Wz,rfl,Q⟩:=aF U;obtain⟨w4,Wy,rfl,O⟩:=aF Q;obtain⟨w5,Wx,rfl,M⟩:=aF O;obtain⟨w6,Wv,rfl,J⟩:=aF M;obtain⟨w7,Wu,rfl,F⟩:=aF J;obtain⟨w8,Wt,rfl,E⟩:=aF F;obtain⟨w9,Wn,rfl,s⟩:=aF E;obtain⟨Ws,zz,rfl,l⟩:=aF s;obtain⟨Wq,qt,rfl,j⟩:=aF l;obtain⟨Wp,mw,rfl,e⟩:=aF j;obtain rfl:=qq e;refine⟨[0],[.sl c 3 Ti y2.1],by kernel_rfl,by decide,?_⟩;refine uh rfl rfl (io (i:=Int.toNat y2.2.1) rfl bW rfl (oG x) rfl .int rfl) ⟨rfl,rfl,trivial⟩ (by kernel_rfl) ?_;obtain⟨x7,u,h⟩:=aa h;refine ug rfl rfl rfl rfl (cI (t:=Ti) rfl gG bW u) ⟨rfl,rfl,trivial⟩ (by kernel_rfl) ?_;refine uh rfl rfl (io (i:=Int.toNat y2.2.2) rfl bW rfl (oG u) rfl .int rfl) ⟨rfl,rfl,trivial⟩ (by kernel_rfl) ?_;refine wH ?_;refine bC (SE.fin (Γ':=[(0,.eq c),(2,I y2.2.1),(3,I y2.2.2)]) (Δ':=[.sl c 3 Ti (List.set (List.set y2.1 (Int.toNat y2.2.1) x4) (Int.toNat y2.2.2) x5)]) [0] ⟨rfl,rfl,rfl,trivial⟩ rfl) ?_;refine aK (tn (ae (mq ?_)));obtain⟨x8,gw,h⟩:=aa h;refine jb (bi rfl gw) ?_;refine mq ?_;obtain⟨x9,Z,h⟩:=aa h;refine jb (eC rfl Z) ?_;refine aq ?_;refine aq (nl ?_);exact jz ((),(List.set (List.set y2.1 (Int.toNat y2.2.1) x4) (Int.toNat y2.2.2) x5,x8,x9)) h [0]
 .
  refine fF (bK (bK (c6 (kZ ?_))));cases h;exact aQ () [] 1 trivial rfl
def jC(k:Nat)(a0:(List Int)):Nat->(Int×Int)->Option Int
 |0,_=>none
 |n+1,y4=>
  if y4.2 < (a0.length:Int) then((aH a0 y4.2).bind λx6=>
  (ck (y4.2+1)).bind λx7=>
  jC k a0 n (tZ y4.1 x6,x7)) else(some y4.1)
def pm(k:Nat)(a0:(List Int)):Option Int:=
 if(a0.length:Int) < 1 then(none) else((aH a0 0).bind λx1=>
 ((jC k a0 k (x1,1)):Option (Int)).bind λx2=>
 some x2)
theorem vn(k:Nat)(a0:(List Int))(r:Int)(h:pm k a0=some r):
 cP Tryz.prog 83 [.rep Tl a0] [] (λ_:Unit=>(bu [I r],[])):=by
 unfold pm at h
 replace h:=aS h
 refine cP.of 25 Tryz.func83 rfl Tryz.ntmps83 rfl λS w0=>?_
 refine sr ?_
 refine cq ?_
 refine nt ?_
 refine aj ?_
 refine sr ?_
 refine mq ?_
 refine ol gG ?_
 refine jb (bp rfl) ?_
 refine nt ?_
 refine ci h (λh=>?_) (λh=>?_)
 .
  cases h
 .
  refine sk (sr (mq ?_));obtain⟨x1,j,h⟩:=aa h;refine jb (aC (t:=Ti) rfl gG bW j) ?_;refine ja (an (t:=Ti) rfl bW rfl) ?_;refine aq (nt ?_);refine aE (Z:=Unit) (α:=Int) (λz3 x2=>[(3,I x2)]) (λz3 x2=>[]) h (λK h=>?_) (λz3 x2 h=>?_)
  .refine sr (cq (nt (ai ?_)));refine aD (λz5 y4=>[(0,.rep Tl a0),(3,I y4.1),(4,I y4.2)]) (λz5 y4=>[]) (jC k a0) k () (x1,1) (λ_=>rfl) h (SE.fin [] ⟨rfl,rfl,rfl,trivial⟩ rfl) (λn z5 y4 h=>?_);unfold jC at h;refine aj (sr ?_);iterate 2 refine mq ?_
   refine ol gG ?_;refine jb (bp rfl) ?_;refine nt (ci h (λh=>?_) (λh=>?_))
   .refine sk (aj (ai (ae ?_)));iterate 3 refine mq ?_
    obtain⟨x6,e,h⟩:=aa h;refine jb (aC (t:=Ti) rfl gG bW e) ?_;refine ja (an (t:=Ti) rfl bW rfl) ?_;refine jb (Iw rfl rfl) ?_;refine aq (aG (aK (tn (ae ?_))));refine mq ?_;obtain⟨x7,c,h⟩:=aa h;refine jb (bi rfl c) ?_;refine aq (nl ?_);exact jz ((),(tZ y4.1 x6,x7)) h []
   .refine xa ?_;exact jz ((),y4.1) h []
  .refine sr (mq ?_);refine aq (nt (aA ?_));cases h;exact ra
def mt(k:Nat)(a0:Int)(a1:Int)(a2:Bool):Option aR:=
 some (a0,a1,a2)
theorem nv(k:Nat)(a0:Int)(a1:Int)(a2:Bool)(r:aR)(h:mt k a0 a1 a2=some r):
 cP Tryz.prog 29 [I a0,I a1,.eq (.bool a2)] [] (λ_:Unit=>(bu [.rep aJ r],[])):=by
 unfold mt at h
 replace h:=aS h
 refine cP.of 11 Tryz.func29 rfl Tryz.ntmps29 rfl λS w0=>?_
 refine sr ?_
 refine aY rfl rfl rfl (bA rfl FO NH) trivial λb1=>?_
 refine nt ?_
 refine sr ?_
 iterate 3 refine mq ?_
 refine jc (eH [(0,.tmp 7,_),(1,.tmp 8,_),(2,.tmp 9,_)] rfl Ru FO OO (kH ⟨rfl,rfl,rfl,trivial⟩) rfl) ?_
 refine aP rfl rfl (aN rfl nq trivial rfl rfl) ⟨rfl,rfl,trivial⟩ ?_
 refine nt ?_
 refine aA ?_
 refine bC (iJ (a:=.agg (.pair (I a0) (.pair (I a1) (.eq (.bool a2))))) (a':=.rep aJ (a0,a1,a2)) (kw (.agg (.pair .int (.pair .int .bool))))) ?_
 cases h
 exact aQ () [.rep aJ (a0,a1,a2)] 0 ⟨⟨_,_,_,_,_,rfl,(.head _),nq,(qp),rfl⟩,trivial⟩ rfl
def jv(k:Nat)(a0:(List aR)):Option ab:=
 (mt k 1 2 true).bind λr2=>
 (mt k 2 1 false).bind λr3=>
 (mt k 3 3 false).bind λr4=>
 (bR (be (length [r2,r3,r4]+length a0))).bind λ_=>
 some (4,1,1,2,[[[0,1,2],[3]],[[0,1],[2,3]],[[1,2,3]],[[1,3],[2]]],[r2,r3,r4]++a0)
theorem iG(k:Nat)(a0:(List aR))(r:ab)(h:jv k a0=some r):
 cP Tryz.prog 44 [Rs aJ a0] [] (λ_:Unit=>(bu [.rep am r],[])):=by
 unfold jv at h
 replace h:=aS h
 refine cP.of 24 Tryz.func44 rfl Tryz.ntmps44 rfl λS w0=>?_
 refine sr ?_
 refine aY rfl rfl rfl (bA rfl ve zM) trivial λb1=>?_
 refine nt ?_
 refine sr ?_
 obtain⟨r2,l,h⟩:=aa h
 have u:=nv k 1 2 true r2 l
 refine jc (av [.const (.int .i64 (1)),.const (.int .i64 (2)),.const (.bool true)] rfl rfl Qj rfl u) ?_
 obtain⟨r3,j,h⟩:=aa h
 have s:=nv k 2 1 false r3 j
 refine jc (av [.const (.int .i64 (2)),.const (.int .i64 (1)),.const (.bool false)] rfl rfl Qj rfl s) ?_
 obtain⟨r4,e,h⟩:=aa h
 have n:=nv k 3 3 false r4 e
 refine jc (av [.const (.int .i64 (3)),.const (.int .i64 (3)),.const (.bool false)] rfl rfl Qj rfl n) ?_
 refine aY rfl rfl rfl (iq (t:=aJ) [(.tmp 4,_),(.tmp 5,_),(.tmp 6,_)] [r2,r3,r4] rfl rfl Az (.cons rfl .rep (.cons rfl .rep (.cons rfl .rep .nil))) rfl rfl) ⟨rfl,rfl,rfl,trivial⟩ λv5=>?_
 refine aq ?_
 refine nt ?_
 refine sr ?_
 refine jc (aX (t:=Ti) [(.const (.int .i64 (0)),_),(.const (.int .i64 (1)),_),(.const (.int .i64 (2)),_)] [0,1,2] rfl rfl cY (.cons rfl .int (.cons rfl .int (.cons rfl .int .nil))) rfl rfl) ?_
 refine ja (aX (t:=Ti) [(.const (.int .i64 (3)),_)] [3] rfl rfl cY (.cons rfl .int .nil) rfl rfl) ?_
 refine jb (aX (t:=Tl) [(.tmp 8,_),(.tmp 9,_)] [[0,1,2],[3]] rfl rfl lX (.cons rfl .rep (.cons rfl .rep .nil)) rfl rfl) ?_
 refine jb (aX (t:=Ti) [(.const (.int .i64 (0)),_),(.const (.int .i64 (1)),_)] [0,1] rfl rfl cY (.cons rfl .int (.cons rfl .int .nil)) rfl rfl) ?_
 refine jb (aX (t:=Ti) [(.const (.int .i64 (2)),_),(.const (.int .i64 (3)),_)] [2,3] rfl rfl cY (.cons rfl .int (.cons rfl .int .nil)) rfl rfl) ?_
 refine jb (aX (t:=Tl) [(.tmp 11,_),(.tmp 12,_)] [[0,1],[2,3]] rfl rfl lX (.cons rfl .rep (.cons rfl .rep .nil)) rfl rfl) ?_
 refine jc (aX (t:=Ti) [(.const (.int .i64 (1)),_),(.const (.int .i64 (2)),_),(.const (.int .i64 (3)),_)] [1,2,3] rfl rfl cY (.cons rfl .int (.cons rfl .int (.cons rfl .int .nil))) rfl rfl) ?_
 refine ja (aX (t:=Tl) [(.tmp 14,_)] [[1,2,3]] rfl rfl lX (.cons rfl .rep .nil) rfl rfl) ?_
 refine jb (aX (t:=Ti) [(.const (.int .i64 (1)),_),(.const (.int .i64 (3)),_)] [1,3] rfl rfl cY (.cons rfl .int (.cons rfl .int .nil)) rfl rfl) ?_
 refine ja (aX (t:=Ti) [(.const (.int .i64 (2)),_)] [2] rfl rfl cY (.cons rfl .int .nil) rfl rfl) ?_
 refine jb (aX (t:=Tl) [(.tmp 16,_),(.tmp 17,_)] [[1,3],[2]] rfl rfl lX (.cons rfl .rep (.cons rfl .rep .nil)) rfl rfl) ?_
 refine cp rfl (aX (t:=(.slice Tl)) [(.tmp 10,_),(.tmp 13,_),(.tmp 15,_),(.tmp 18,_)] [[[0,1,2],[3]],[[0,1],[2,3]],[[1,2,3]],[[1,3],[2]]] rfl rfl yL (.cons rfl .rep (.cons rfl .rep (.cons rfl .rep (.cons rfl .rep .nil)))) rfl rfl) ⟨rfl,rfl,rfl,rfl,trivial⟩ ?_
 iterate 2 refine mq ?_
 obtain⟨u6,c,h⟩:=aa h
 refine cQ rfl rfl rfl (bq rfl rfl Az (ap c)) ⟨rfl,rfl,trivial⟩ λv7=>?_
 refine eE (gB [22] ⟨rfl,trivial⟩) ?_
 refine cp rfl (eH [(0,.const (.int .i64 (4)),_),(1,.const (.int .i64 (1)),_),(2,.const (.int .i64 (1)),_),(3,.const (.int .i64 (2)),_),(4,.tmp 19,_),(5,.tmp 22,_)] rfl Rw ve OP (kH ⟨rfl,rfl,rfl,rfl,rfl,rfl,trivial⟩) rfl) ⟨rfl,rfl,rfl,rfl,rfl,rfl,trivial⟩ ?_
 refine aP rfl rfl (aN rfl dp trivial rfl rfl) ⟨rfl,rfl,trivial⟩ ?_
 refine nt ?_
 refine aA ?_
 refine bC (iJ (a:=.agg (.pair (I 4) (.pair (I 1) (.pair (I 1) (.pair (I 2) (.pair (.rep (.slice (.slice Tl)) [[[0,1,2],[3]],[[0,1],[2,3]],[[1,2,3]],[[1,3],[2]]]) (Rs aJ ([r2,r3,r4]++a0)))))))) (a':=.rep am (4,1,1,2,[[[0,1,2],[3]],[[0,1],[2,3]],[[1,2,3]],[[1,3],[2]]],[r2,r3,r4]++a0)) (kw (.agg (.pair .int (.pair .int (.pair .int (.pair .int (.pair .rep .rep)))))))) ?_
 cases h
 exact aQ () [.rep am (4,1,1,2,[[[0,1,2],[3]],[[0,1],[2,3]],[[1,2,3]],[[1,3],[2]]],[r2,r3,r4]++a0)] 0 ⟨⟨_,_,_,_,_,rfl,(.head _),dp,(qp),rfl⟩,trivial⟩ rfl
def jM(k:Nat)(a0:Int):Option Int:=
 (eI k a0).bind λr1=>
 some (r1.length:Int)
theorem oS(k:Nat)(a0:Int)(r:Int)(h:jM k a0=some r):
 cP Tryz.prog 72 [.eq (.int .u8 a0)] [] (λ_:Unit=>(bu [I r],[])):=by
 unfold jM at h
 replace h:=aS h
 refine cP.of 6 Tryz.func72 rfl Tryz.ntmps72 rfl λS w0=>?_
 refine sr ?_
 refine cq ?_
 refine nt ?_
 refine sr ?_
 refine mq ?_
 obtain⟨r1,c,h⟩:=aa h
 have e:=gP k a0 r1 c
 refine ja (av [.tmp 3] rfl rfl Js rfl e) ?_
 refine ol gG ?_
 refine aq ?_
 refine nt ?_
 refine aA ?_
 cases h
 exact ra
def lE(k:Nat)(a0:Int):Option Int:=
 (eI k a0).bind λr1=>
 some (r1.length:Int)
theorem oR(k:Nat)(a0:Int)(r:Int)(h:lE k a0=some r):
 cP Tryz.prog 89 [.eq (.int .u8 a0)] [] (λ_:Unit=>(bu [I r],[])):=by
 unfold lE at h
 replace h:=aS h
 refine cP.of 6 Tryz.func89 rfl Tryz.ntmps89 rfl λS w0=>?_
 refine sr ?_
 refine cq ?_
 refine nt ?_
 refine sr ?_
 refine mq ?_
 obtain⟨r1,c,h⟩:=aa h
 have e:=gP k a0 r1 c
 refine ja (av [.tmp 3] rfl rfl Js rfl e) ?_
 refine ol gG ?_
 refine aq ?_
 refine nt ?_
 refine aA ?_
 cases h
 exact ra
def oz(k:Nat)(a0:Int)(a1:Int):Option Int:=
 (lE k a0).bind λr1=>
 (lE k a1).bind λr2=>
 (ck (r1 - r2)).bind λx3=>
 some x3
theorem uJ(k:Nat)(a0:Int)(a1:Int)(c:Nat)(r:Int)(h:oz k a0 a1=some r):
 cP Tryz.prog 104 [.eq (.int .u8 a0),.eq (.int .u8 a1),Pt c] [.obj c 104 (.eq (.func (.func 89) #[] #[]))] (λ_:Unit=>(bu [I r],[.obj c 104 (.eq (.func (.func 89) #[] #[]))])):=by
 unfold oz at h
 replace h:=aS h
 refine cP.of 13 Tryz.func104 rfl Tryz.ntmps104 rfl λS w0=>?_
 refine sr ?_
 refine cq ?_
 refine nt ?_
 refine aj ?_
 refine bL ?_
 refine ea 0 (ao rfl Ew jr rfl) ?_
 refine dm ?_
 obtain⟨r1,l,h⟩:=aa h
 have s:=oR k a0 r1 l
 refine db (ot (fs:=[]) (cs:=[]) (ags:=[.eq (.int .u8 a0)]) [.tmp 7] rfl rfl SL rfl s) ?_
 refine ea 0 (ao rfl Ew jr rfl) ?_
 refine dm ?_
 refine df cU ?_
 obtain⟨r2,j,h⟩:=aa h
 have n:=oR k a1 r2 j
 refine jb (ot (fs:=[]) (cs:=[]) (ags:=[.eq (.int .u8 a1)]) [.tmp 10] rfl rfl SL rfl n) ?_
 obtain⟨x3,e,h⟩:=aa h
 refine jb (eC rfl e) ?_
 refine aq ?_
 refine nt ?_
 refine aA ?_
 cases h
 exact aQ () [_] 1 ⟨rfl,trivial⟩ rfl
def iS(k:Nat)(a0:Int)(a1:Int):Option Int:=
 (jM k a0).bind λr1=>
 (jM k a1).bind λr2=>
 (ck (r1 - r2)).bind λx3=>
 some x3
theorem tL(k:Nat)(a0:Int)(a1:Int)(c:Nat)(r:Int)(h:iS k a0 a1=some r):
 cP Tryz.prog 104 [.eq (.int .u8 a0),.eq (.int .u8 a1),Pt c] [.obj c 104 (.eq (.func (.func 72) #[] #[]))] (λ_:Unit=>(bu [I r],[.obj c 104 (.eq (.func (.func 72) #[] #[]))])):=by
 unfold iS at h
 replace h:=aS h
 refine cP.of 13 Tryz.func104 rfl Tryz.ntmps104 rfl λS w0=>?_
 refine sr ?_
 refine cq ?_
 refine nt ?_
 refine aj ?_
 refine bL ?_
 refine ea 0 (ao rfl Ew jr rfl) ?_
 refine dm ?_
 obtain⟨r1,l,h⟩:=aa h
 have s:=oS k a0 r1 l
 refine db (ot (fs:=[]) (cs:=[]) (ags:=[.eq (.int .u8 a0)]) [.tmp 7] rfl rfl SU rfl s) ?_
 refine ea 0 (ao rfl Ew jr rfl) ?_
 refine dm ?_
 refine df cU ?_
 obtain⟨r2,j,h⟩:=aa h
 have n:=oS k a1 r2 j
 refine jb (ot (fs:=[]) (cs:=[]) (ags:=[.eq (.int .u8 a1)]) [.tmp 10] rfl rfl SU rfl n) ?_
 obtain⟨x3,e,h⟩:=aa h
 refine jb (eC rfl e) ?_
 refine aq ?_
 refine nt ?_
 refine aA ?_
 cases h
 exact aQ () [_] 1 ⟨rfl,trivial⟩ rfl
def gk(k:Nat)(a0:(List Int)):Nat->(Int×Int)->Option Int
 |0,_=>none
 |n+1,y4=>
  if y4.2 < (a0.length:Int) then((((aH a0 y4.2).bind λx8=>
  (oz k x8 y4.1).bind λr9=>
  if r9 < 0 then((aH a0 y4.2).bind λe=>
  some e) else(some y4.1)):Option (Int)).bind λx6=>
  (ck (y4.2+1)).bind λc=>
  gk k a0 n (x6,c)) else(some y4.1)
def li(k:Nat)(a0:(List Int)):Option Int:=
 if(a0.length:Int) < 1 then(none) else((aH a0 0).bind λx1=>
 ((gk k a0 k (x1,1)):Option (Int)).bind λx2=>
 some x2)
theorem rf(k:Nat)(a0:(List Int))(c_a1_0:Nat)(r:Int)(h:li k a0=some r):
 cP Tryz.prog 103 [.rep (.slice (.int .u8)) a0,.eq (.func (.func 104) #[] #[(Pv c_a1_0)])] [.obj c_a1_0 104 (.eq (.func (.func 89) #[] #[]))] (λ_:Unit=>(bu [.eq (.int .u8 r)],[.obj c_a1_0 104 (.eq (.func (.func 89) #[] #[]))])):=by
 unfold li at h
 replace h:=aS h
 refine cP.of 33 Tryz.func103 rfl Tryz.ntmps103 rfl λS w0=>?_
 refine sr ?_
 refine cq ?_
 refine nt ?_
 refine aj ?_
 refine sr ?_
 refine mq ?_
 refine ol xw ?_
 refine jb (bp rfl) ?_
 refine nt ?_
 refine ci h (λh=>?_) (λh=>?_)
 .
  cases h
 .
  refine sk (sr (mq ?_));obtain⟨x1,u,h⟩:=aa h;refine jb (aC (t:=(.int .u8)) rfl xw np u) ?_;refine ja (an (t:=(.int .u8)) rfl np rfl) ?_;refine aq (nt ?_);refine aE (Z:=Unit) (α:=Int) (λz3 x2=>[(5,.eq (.int .u8 x2))]) (λz3 x2=>[.obj c_a1_0 104 (.eq (.func (.func 89) #[] #[]))]) h (λK h=>?_) (λz3 x2 h=>?_)
  .refine sr (cq (nt (ai ?_)));refine aD (λz5 y4=>[(0,.rep (.slice (.int .u8)) a0),(1,.eq (.func (.func 104) #[] #[(Pv c_a1_0)])),(5,.eq (.int .u8 y4.1)),(6,I y4.2)]) (λz5 y4=>[.obj c_a1_0 104 (.eq (.func (.func 89) #[] #[]))]) (gk k a0) k () (x1,1) (λ_=>rfl) h (SE.fin [0] ⟨rfl,rfl,rfl,rfl,trivial⟩ rfl) (λn z5 y4 h=>?_);unfold gk at h;refine aj (sr ?_);iterate 2 refine mq ?_
   refine ol xw ?_;refine jb (bp rfl) ?_;refine nt (ci h (λh=>?_) (λh=>?_))
   .refine sk (aE (Z:=Unit) (α:=Int) (λz7 x6=>[(0,.rep (.slice (.int .u8)) a0),(1,.eq (.func (.func 104) #[] #[(Pv c_a1_0)])),(5,.eq (.int .u8 x6)),(6,I y4.2)]) (λz7 x6=>[.obj c_a1_0 104 (.eq (.func (.func 89) #[] #[]))]) h (λK h=>?_) (λz7 x6 h=>?_))
    .refine ai (sr ?_);iterate 3 refine mq ?_
     obtain⟨x8,s,h⟩:=aa h;refine jb (aC (t:=(.int .u8)) rfl xw np s) ?_;refine ja (an (t:=(.int .u8)) rfl np rfl) ?_;refine mq ?_;obtain⟨r9,x,h⟩:=aa h;refine kc (ot (fs:=[]) (cs:=[(Pv c_a1_0)]) (ags:=[.eq (.int .u8 x8),.eq (.int .u8 y4.1)]) [.tmp 24,.tmp 25] rfl rfl OH rfl (uJ k x8 y4.1 c_a1_0 r9 x)) ?_;refine jb (bp rfl) ?_;refine nt (ci h (λh=>?_) (λh=>?_))
     .refine ae ?_;iterate 2 refine mq ?_
      obtain⟨l,e,h⟩:=aa h;refine jb (aC (t:=(.int .u8)) rfl xw np e) ?_;refine ja (an (t:=(.int .u8)) rfl np rfl) ?_;refine aq (aG (bn ?_));exact jz ((),l) h [0]
     .refine aZ (bn ?_);exact jz ((),y4.1) h [0]
    .refine ae (mq ?_);obtain⟨j,c,h⟩:=aa h;refine jb (bi rfl c) ?_;refine aq (nl ?_);exact jz ((),(x6,j)) h [0]
   .refine xa ?_;exact jz ((),y4.1) h [0]
  .refine sr (mq ?_);refine aq (nt (aA ?_));cases h;exact aQ () [_] 1 ⟨rfl,trivial⟩ rfl
def cT(k:Nat)(a0:(List Int)):Nat->(Int×Int)->Option Int
 |0,_=>none
 |n+1,y4=>
  if y4.2 < (a0.length:Int) then((((aH a0 y4.2).bind λx8=>
  (iS k x8 y4.1).bind λr9=>
  if r9 < 0 then((aH a0 y4.2).bind λe=>
  some e) else(some y4.1)):Option (Int)).bind λx6=>
  (ck (y4.2+1)).bind λc=>
  cT k a0 n (x6,c)) else(some y4.1)
def iF(k:Nat)(a0:(List Int)):Option Int:=
 if(a0.length:Int) < 1 then(none) else((aH a0 0).bind λx1=>
 ((cT k a0 k (x1,1)):Option (Int)).bind λx2=>
 some x2)
theorem qJ(k:Nat)(a0:(List Int))(c_a1_0:Nat)(r:Int)(h:iF k a0=some r):
 cP Tryz.prog 103 [.rep (.slice (.int .u8)) a0,.eq (.func (.func 104) #[] #[(Pv c_a1_0)])] [.obj c_a1_0 104 (.eq (.func (.func 72) #[] #[]))] (λ_:Unit=>(bu [.eq (.int .u8 r)],[.obj c_a1_0 104 (.eq (.func (.func 72) #[] #[]))])):=by
 unfold iF at h
 replace h:=aS h
 refine cP.of 33 Tryz.func103 rfl Tryz.ntmps103 rfl λS w0=>?_
 refine sr ?_
 refine cq ?_
 refine nt ?_
 refine aj ?_
 refine sr ?_
 refine mq ?_
 refine ol xw ?_
 refine jb (bp rfl) ?_
 refine nt ?_
 refine ci h (λh=>?_) (λh=>?_)
 .
  cases h
 .
  refine sk (sr (mq ?_));obtain⟨x1,u,h⟩:=aa h;refine jb (aC (t:=(.int .u8)) rfl xw np u) ?_;refine ja (an (t:=(.int .u8)) rfl np rfl) ?_;refine aq (nt ?_);refine aE (Z:=Unit) (α:=Int) (λz3 x2=>[(5,.eq (.int .u8 x2))]) (λz3 x2=>[.obj c_a1_0 104 (.eq (.func (.func 72) #[] #[]))]) h (λK h=>?_) (λz3 x2 h=>?_)
  .refine sr (cq (nt (ai ?_)));refine aD (λz5 y4=>[(0,.rep (.slice (.int .u8)) a0),(1,.eq (.func (.func 104) #[] #[(Pv c_a1_0)])),(5,.eq (.int .u8 y4.1)),(6,I y4.2)]) (λz5 y4=>[.obj c_a1_0 104 (.eq (.func (.func 72) #[] #[]))]) (cT k a0) k () (x1,1) (λ_=>rfl) h (SE.fin [0] ⟨rfl,rfl,rfl,rfl,trivial⟩ rfl) (λn z5 y4 h=>?_);unfold cT at h;refine aj (sr ?_);iterate 2 refine mq ?_
   refine ol xw ?_;refine jb (bp rfl) ?_;refine nt (ci h (λh=>?_) (λh=>?_))
   .refine sk (aE (Z:=Unit) (α:=Int) (λz7 x6=>[(0,.rep (.slice (.int .u8)) a0),(1,.eq (.func (.func 104) #[] #[(Pv c_a1_0)])),(5,.eq (.int .u8 x6)),(6,I y4.2)]) (λz7 x6=>[.obj c_a1_0 104 (.eq (.func (.func 72) #[] #[]))]) h (λK h=>?_) (λz7 x6 h=>?_))
    .refine ai (sr ?_);iterate 3 refine mq ?_
     obtain⟨x8,s,h⟩:=aa h;refine jb (aC (t:=(.int .u8)) rfl xw np s) ?_;refine ja (an (t:=(.int .u8)) rfl np rfl) ?_;refine mq ?_;obtain⟨r9,x,h⟩:=aa h;refine kc (ot (fs:=[]) (cs:=[(Pv c_a1_0)]) (ags:=[.eq (.int .u8 x8),.eq (.int .u8 y4.1)]) [.tmp 24,.tmp 25] rfl rfl OH rfl (tL k x8 y4.1 c_a1_0 r9 x)) ?_;refine jb (bp rfl) ?_;refine nt (ci h (λh=>?_) (λh=>?_))
     .refine ae ?_;iterate 2 refine mq ?_
      obtain⟨l,e,h⟩:=aa h;refine jb (aC (t:=(.int .u8)) rfl xw np e) ?_;refine ja (an (t:=(.int .u8)) rfl np rfl) ?_;refine aq (aG (bn ?_));exact jz ((),l) h [0]
     .refine aZ (bn ?_);exact jz ((),y4.1) h [0]
    .refine ae (mq ?_);obtain⟨j,c,h⟩:=aa h;refine jb (bi rfl c) ?_;refine aq (nl ?_);exact jz ((),(x6,j)) h [0]
   .refine xa ?_;exact jz ((),y4.1) h [0]
  .refine sr (mq ?_);refine aq (nt (aA ?_));cases h;exact aQ () [_] 1 ⟨rfl,trivial⟩ rfl
def rE(k:Nat)(a0:(List Int)):Option Int:=
 (li k a0).bind λr2=>
 some r2
theorem xl(k:Nat)(a0:(List Int))(r:Int)(h:rE k a0=some r):
 cP Tryz.prog 71 [.rep (.slice (.int .u8)) a0,.eq (.func (.func 89) #[] #[])] [] (λ_:Unit=>(bu [.eq (.int .u8 r)],[])):=by
 unfold rE at h
 replace h:=aS h
 refine cP.of 8 Tryz.func71 rfl Tryz.ntmps71 rfl λS w0=>?_
 refine sr ?_
 refine bx λb1=>?_
 refine cq ?_
 refine nt ?_
 refine sr ?_
 refine mq ?_
 refine ja (rm [] [.tmp 3] [] [(Pv b1)] rfl rfl rfl) ?_
 obtain⟨r2,c,h⟩:=aa h
 have e:=rf k a0 b1 r2 c
 refine kb (av [.tmp 5,.tmp 6] rfl rfl OI rfl e) ?_
 refine aq ?_
 refine nt ?_
 refine aA ?_
 cases h
 exact ra
def kO(k:Nat)(a0:(List Int)):Option Int:=
 (iF k a0).bind λr2=>
 some r2
theorem vK(k:Nat)(a0:(List Int))(r:Int)(h:kO k a0=some r):
 cP Tryz.prog 71 [.rep (.slice (.int .u8)) a0,.eq (.func (.func 72) #[] #[])] [] (λ_:Unit=>(bu [.eq (.int .u8 r)],[])):=by
 unfold kO at h
 replace h:=aS h
 refine cP.of 8 Tryz.func71 rfl Tryz.ntmps71 rfl λS w0=>?_
 refine sr ?_
 refine bx λb1=>?_
 refine cq ?_
 refine nt ?_
 refine sr ?_
 refine mq ?_
 refine ja (rm [] [.tmp 3] [] [(Pv b1)] rfl rfl rfl) ?_
 obtain⟨r2,c,h⟩:=aa h
 have e:=qJ k a0 b1 r2 c
 refine kb (av [.tmp 5,.tmp 6] rfl rfl OI rfl e) ?_
 refine aq ?_
 refine nt ?_
 refine aA ?_
 cases h
 exact ra
def nf(k:Nat)(a0:(List Int)):Option bQ:=
 some (a0,0,1)
theorem vV(k:Nat)(a0:(List Int))(r:bQ)(h:nf k a0=some r):
 cP Tryz.prog 12 [.rep Tl a0] [] (λz:Nat=>(bu [Pt z],[.obj z 74 (.agg (.pair (.rep Tl r.1) (.pair (I r.2.1) (.eq (.int .u64 r.2.2)))))])):=by
 unfold nf at h
 replace h:=aS h
 refine cP.of 6 Tryz.func12 rfl Tryz.ntmps12 rfl λS w0=>?_
 refine sr ?_
 refine cq ?_
 refine nt ?_
 refine sr ?_
 refine mq ?_
 refine jb (eH [(0,.tmp 3,_),(2,.const (.int .u64 (1)),_)] rfl UB Uu TN (kH ⟨rfl,rfl,trivial⟩) rfl) ?_
 refine aY rfl rfl rfl (xW rfl trivial) ⟨rfl,trivial⟩ λb1=>?_
 refine aq ?_
 refine nt ?_
 refine aA ?_
 cases h
 exact aQ b1 [Pt b1] 1 ⟨rfl,trivial⟩ rfl
def jQ(k:Nat)(a0:(List Int)):Option (List Int):=
 (bR (be (length ([]:(List Int))+length a0))).bind λ_=>
 some (([]:(List Int))++a0)
theorem uM(k:Nat)(a0:(List Int))(r:(List Int))(h:jQ k a0=some r):
 cP Tryz.prog 16 [.rep Tl a0] [] (λz:Value=>(bu [.eq z],[.sl z 3 Ti r])):=by
 unfold jQ at h
 replace h:=aS h
 refine cP.of 6 Tryz.func16 rfl Tryz.ntmps16 rfl λS w0=>?_
 refine sr ?_
 refine cq ?_
 refine nt ?_
 refine sr ?_
 refine aY rfl rfl rfl (iq (t:=Ti) [] ([]:(List Int)) rfl rfl cY .nil rfl rfl) trivial λv1=>?_
 refine mq ?_
 obtain⟨u2,c,h⟩:=aa h
 refine cQ rfl rfl rfl (bq rfl rfl cY (ap c)) ⟨rfl,rfl,trivial⟩ λv3=>?_
 refine aq ?_
 refine nt ?_
 refine aA ?_
 cases h
 exact aQ v3 [.eq v3] 1 ⟨rfl,trivial⟩ rfl
def dI(k:Nat)(a0:(List (List Int))):Nat->((List (List Int))×Int)->Option (List (List Int))
 |0,_=>none
 |n+1,y3=>
  if y3.2 < (a0.length:Int) then((aH a0 y3.2).bind λx5=>
  (jQ k x5).bind λr6=>
  (bR (be (length y3.1+length [r6]))).bind λ_=>
  (ck (y3.2+1)).bind λc=>
  dI k a0 n (y3.1++[r6],c)) else(some y3.1)
def g9(k:Nat)(a0:(List (List Int))):Option (List (List Int)):=
 ((dI k a0 k (([]:(List (List Int))),0)):Option ((List (List Int)))).bind λx1=>
 some x1
theorem nS(k:Nat)(a0:(List (List Int)))(r:(List (List Int)))(h:g9 k a0=some r):
 cP Tryz.prog 47 [.rep (.slice Tl) a0] [] (λz:Value=>(bu [.eq z],[.sl z 28 Tl r])):=by
 unfold g9 at h
 replace h:=aS h
 refine cP.of 20 Tryz.func47 rfl Tryz.ntmps47 rfl λS w0=>?_
 refine sr ?_
 refine cq ?_
 refine nt ?_
 refine sr ?_
 refine cq ?_
 refine nt ?_
 refine aE (Z:=Value) (α:=(List (List Int))) (λz2 x1=>[(3,.eq z2)]) (λz2 x1=>[.sl z2 28 Tl x1]) h (λK h=>?_) (λz2 x1 h=>?_)
 .
  refine sr (cq (nt (ai ?_)));refine iC (SE.nil 28 Tl) ?_;refine aD (λz4 y3=>[(0,.rep (.slice Tl) a0),(3,.eq z4),(4,I y3.2)]) (λz4 y3=>[.sl z4 28 Tl y3.1]) (dI k a0) k (.slice none 0 0) (([]:(List (List Int))),0) (λ_=>rfl) h (SE.fin [0] ⟨rfl,rfl,rfl,trivial⟩ rfl) (λn z4 y3 h=>?_);unfold dI at h;refine aj (sr ?_);iterate 2 refine mq ?_
  refine ol oa ?_;refine jb (bp rfl) ?_;refine nt (ci h (λh=>?_) (λh=>?_))
  .refine sk (aj (ai (ae ?_)));iterate 3 refine mq ?_
   obtain⟨x5,j,h⟩:=aa h;refine jb (aC (t:=Tl) rfl oa eR j) ?_;refine ja (an (t:=Tl) rfl eR rfl) ?_;obtain⟨r6,s,h⟩:=aa h;refine aY rfl rfl rfl (av [.tmp 15] rfl rfl VB rfl (uM k x5 r6 s)) ⟨rfl,trivial⟩ λv7=>?_;refine eE (gB [16] ⟨rfl,trivial⟩) ?_;refine ja (aX (t:=Tl) [(.tmp 16,_)] [r6] rfl rfl lX (.cons rfl .rep .nil) rfl rfl) ?_;obtain⟨u8,l,h⟩:=aa h;refine cQ rfl rfl rfl (bq rfl rfl lX (ap l)) ⟨rfl,rfl,trivial⟩ λv9=>?_;refine aq (aG (aK (tn (ae ?_))));refine mq ?_;obtain⟨e,c,h⟩:=aa h;refine jb (bi rfl c) ?_;refine aq (nl ?_);exact jz (v9,(y3.1++[r6],e)) h [0]
  .refine xa ?_;exact jz (z4,y3.1) h [0]
 .
  refine sr (mq ?_);refine aq (nt (aA ?_));cases h;exact aQ z2 [.eq z2] 1 ⟨rfl,trivial⟩ rfl
def dH(k:Nat)(a0:ab):Nat->((List (List (List Int)))×Int)->Option (List (List (List Int)))
 |0,_=>none
 |n+1,y9=>
  if y9.2 < (a0.2.2.2.2.1.length:Int) then((aH a0.2.2.2.2.1 y9.2).bind λh=>
  (g9 k h).bind λc=>
  (bR (be (length y9.1+length [c]))).bind λ_=>
  (ck (y9.2+1)).bind λe=>
  dH k a0 n (y9.1++[c],e)) else(some y9.1)
def g7(k:Nat)(a0:ab):Option ab:=
 (bR (be (length ([]:(List aR))+length a0.2.2.2.2.2))).bind λ_=>
 ((dH k a0 k (([]:(List (List (List Int)))),0)):Option ((List (List (List Int))))).bind λx7=>
 some (a0.1,a0.2.1,a0.2.2.1,a0.2.2.2.1,x7,([]:(List aR))++a0.2.2.2.2.2)
theorem nR(k:Nat)(a0:ab)(r:ab)(h:g7 k a0=some r):
 cP Tryz.prog 15 [.rep am a0] [] (λz:Value=>(bu [.agg (.pair (I r.1) (.pair (I r.2.1) (.pair (I r.2.2.1) (.pair (I r.2.2.2.1) (.pair (.rep (.slice (.slice Tl)) r.2.2.2.2.1) (.eq z))))))],[.sl z 27 aJ r.2.2.2.2.2])):=by
 unfold g7 at h
 replace h:=aS h
 refine cP.of 30 Tryz.func15 rfl Tryz.ntmps15 rfl λS w0=>?_
 refine sr ?_
 refine bx λb1=>?_
 refine aY rfl rfl rfl (bA rfl ve zM) trivial λb2=>?_
 refine nt ?_
 refine sr ?_
 refine fl cf ?_
 refine fr 1 ?_
 refine lo fG ?_
 refine aq ?_
 refine nt ?_
 refine sr ?_
 refine aY rfl rfl rfl (iq (t:=aJ) [] ([]:(List aR)) rfl rfl Az .nil rfl rfl) trivial λv3=>?_
 refine fl fS ?_
 refine fr 1 ?_
 refine lo nF ?_
 obtain⟨u4,E,h⟩:=aa h
 refine fr 1 ?_
 refine cQ rfl rfl rfl (bq rfl rfl Az (ap E)) ⟨rfl,rfl,trivial⟩ λv5=>?_
 refine fl cf ?_
 refine fr 1 ?_
 refine aP rfl rfl (aN rfl fG rfl rfl rfl) ⟨rfl,rfl,trivial⟩ ?_
 refine fl fS ?_
 refine fr 1 ?_
 refine oM λo6=>?_
 refine fr 1 ?_
 refine aP rfl rfl (aN rfl nF o6 rfl rfl) ⟨rfl,rfl,trivial⟩ ?_
 refine nt ?_
 refine aE (Z:=Value) (α:=(List (List (List Int)))) (λz8 x7=>[(1,Pt b1),(2,Pt b2)]) (λz8 x7=>[.obj b1 25 (.agg (.pair (I a0.1) (.pair (I a0.2.1) (.pair (I a0.2.2.1) (.pair (I a0.2.2.2.1) (.pair (.eq z8) (.eq v5))))))),.sl z8 36 (.slice Tl) x7,.sl v5 27 aJ (([]:(List aR))++a0.2.2.2.2.2),.obj b2 25 (.agg (.pair (I 0) (.pair (I 0) (.pair (I 0) (.pair (I 0) (.pair (.eq (.slice none 0 0)) (.eq (.slice none 0 0))))))))]) h (λK h=>?_) (λz8 x7 h=>?_)
 .
  refine sr (cq (nt (ai ?_)));refine iC (SE.nil 36 (.slice Tl)) ?_;refine dX 1 rfl ?_;refine iC (iJ (a:=.agg (.pair (.rep Ti a0.1) (.pair (.rep Ti a0.2.1) (.pair (.rep Ti a0.2.2.1) (.pair (.rep Ti a0.2.2.2.1) (.pair (.eq (.slice none 0 0)) (.eq v5))))))) (a':=.agg (.pair (I a0.1) (.pair (I a0.2.1) (.pair (I a0.2.2.1) (.pair (I a0.2.2.2.1) (.pair (.eq (.slice none 0 0)) (.eq v5))))))) (AE.agg (AE.pair AE.int (AE.pair AE.int (AE.pair AE.int (AE.pair AE.int AE.rfl)))))) ?_;refine aD (λc y9=>[(1,Pt b1),(2,Pt b2),(3,.rep (.slice (.slice Tl)) a0.2.2.2.2.1),(4,I y9.2)]) (λc y9=>[.obj b1 25 (.agg (.pair (I a0.1) (.pair (I a0.2.1) (.pair (I a0.2.2.1) (.pair (I a0.2.2.2.1) (.pair (.eq c) (.eq v5))))))),.sl c 36 (.slice Tl) y9.1,.sl v5 27 aJ (([]:(List aR))++a0.2.2.2.2.2),.obj b2 25 (.agg (.pair (I 0) (.pair (I 0) (.pair (I 0) (.pair (I 0) (.pair (.eq (.slice none 0 0)) (.eq (.slice none 0 0))))))))]) (dH k a0) k (.slice none 0 0) (([]:(List (List (List Int)))),0) (λ_=>rfl) h (SE.fin [0,1,2,3] ⟨rfl,rfl,rfl,rfl,trivial⟩ rfl) (λn c y9 h=>?_);unfold dH at h;refine aj (sr ?_);iterate 2 refine mq ?_
  refine ol pU ?_;refine jb (bp rfl) ?_;refine nt (ci h (λh=>?_) (λh=>?_))
  .refine sk (aj (ai (bL ?_)));refine da (au rfl cf) ?_;refine ea 0 (ao rfl fG jr rfl) ?_;refine dm ?_;refine dm ?_;obtain⟨y,l,h⟩:=aa h;refine db (aC (t:=(.slice Tl)) rfl pU kF l) ?_;refine da (an (t:=(.slice Tl)) rfl kF rfl) ?_;obtain⟨e,u,h⟩:=aa h;refine da (zR (av [.tmp 24] rfl rfl S7 rfl (nS k y e u))) ?_;refine da (aX (t:=(.slice Tl)) [(.tmp 25,_)] [e] rfl rfl yL (.cons rfl .rep .nil) rfl rfl) ?_;refine df cU ?_;obtain⟨F,s,h⟩:=aa h;refine fr 1 ?_;refine cQ rfl rfl rfl (bq rfl rfl yL (ap s)) ⟨rfl,rfl,trivial⟩ λD=>?_;refine fl cf ?_;refine oM λo15=>?_;refine fr 1 ?_;refine aP rfl rfl (aN rfl fG o15 rfl rfl) ⟨rfl,rfl,trivial⟩ ?_;refine aG (aK (tn (ae (mq ?_))));obtain⟨x,j,h⟩:=aa h;refine jb (bi rfl j) ?_;refine aq (nl ?_);exact jz (D,(y9.1++[e],x)) h [0,1,2,3]
  .refine xa ?_;exact jz (c,y9.1) h [0,1,2,3]
 .
  refine sr (lo dp ?_);refine fr 3 ?_;refine aP rfl rfl (aN rfl dp trivial rfl rfl) ⟨rfl,rfl,trivial⟩ ?_;refine nt (aA (bI 2 rfl ?_));refine bC (jm (off:=4) [] trivial rfl rfl) ?_;refine bC (SE.fin (Γ':=[(2,_)]) [2,0,1] ⟨rfl,trivial⟩ rfl) ?_;cases h;exact aQ v5 [.agg (.pair (I a0.1) (.pair (I a0.2.1) (.pair (I a0.2.2.1) (.pair (I a0.2.2.2.1) (.pair (.rep (.slice (.slice Tl)) x7) (.eq v5))))))] 1 ⟨⟨_,_,_,_,_,rfl,(.tail _ (.head _)),dp,(qp),rfl⟩,trivial⟩ rfl
def iU(k:Nat)(a0:bQ):Option (Int×bQ):=
 ((if a0.2.1 < (a0.1.length:Int) then((aH a0.1 a0.2.1).bind λx3=>
 some (IntKind.u64.wrap ((IntKind.u64.wrap ((IntKind.u64.wrap (a0.2.2 * 6364136223846793005))+1442695040888963407))+(IntKind.u64.wrap ((IntKind.u64.wrap x3) * 2862933555777941757))))) else(some (IntKind.u64.wrap ((IntKind.u64.wrap (a0.2.2 * 6364136223846793005))+1442695040888963407)))):Option (Int)).bind λx1=>
 (ck (a0.2.1+1)).bind λx4=>
 some (ii .u64 (rM .u64 (IntKind.u64.wrap ((rM .u64 x1 (ii .u64 x1 29)) * 2685821657736338717)) (ii .u64 (IntKind.u64.wrap ((rM .u64 x1 (ii .u64 x1 29)) * 2685821657736338717)) 32)) 8,(a0.1,x4,x1))
theorem tU(k:Nat)(a0:bQ)(c:Nat)(r:Int×bQ)(h:iU k a0=some r):
 cP Tryz.prog 59 [Pt c] [.obj c 74 (.agg (.pair (.rep Tl a0.1) (.pair (I a0.2.1) (.eq (.int .u64 a0.2.2)))))] (λ_:Unit=>(bu [.eq (.int .u64 r.1)],[.obj c 74 (.agg (.pair (.rep Tl r.2.1) (.pair (I r.2.2.1) (.eq (.int .u64 r.2.2.2)))))])):=by
 unfold iU at h
 replace h:=aS h
 refine cP.of 67 Tryz.func59 rfl Tryz.ntmps59 rfl λS w0=>?_
 refine sr ?_
 refine cq ?_
 refine nt ?_
 refine sr ?_
 iterate 2 refine mq ?_
 refine ja (cV rfl) ?_
 refine fl t5 ?_
 refine lo FW ?_
 refine jb (Do rfl) ?_
 refine jb (IB rfl) ?_
 refine ja (cV rfl) ?_
 refine fl t5 ?_
 refine aP rfl rfl (aN rfl FW rfl rfl rfl) ⟨rfl,rfl,trivial⟩ ?_
 refine nt ?_
 refine aE (Z:=Unit) (α:=Int) (λz2 x1=>[(0,Pt c)]) (λz2 x1=>[.obj c 74 (.agg (.pair (.rep Tl a0.1) (.pair (I a0.2.1) (.eq (.int .u64 x1)))))]) h (λK h=>?_) (λz2 x1 h=>?_)
 .
  refine aj (bL ?_);refine dm ?_;refine da (cV rfl) ?_;refine da (au rfl zx) ?_;refine ea 0 (ao rfl bW jr rfl) ?_;refine dm ?_;refine da (cV rfl) ?_;refine da (au rfl Jm) ?_;refine ea 0 (ao rfl eR jr rfl) ?_;refine da (pA rfl rfl gG) ?_;refine df cU ?_;refine jb (bp rfl) ?_;refine nt (ci h (λh=>?_) (λh=>?_))
  .refine bL ?_;refine dm ?_;refine dm ?_;refine da (cV rfl) ?_;refine da (au rfl t5) ?_;refine ea 0 (ao rfl FW jr rfl) ?_;refine dm ?_;refine da (cV rfl) ?_;refine da (au rfl Jm) ?_;refine ea 0 (ao rfl eR jr rfl) ?_;refine dm ?_;refine da (cV rfl) ?_;refine da (au rfl zx) ?_;refine ea 0 (ao rfl bW jr rfl) ?_;obtain⟨x3,j,h⟩:=aa h;refine db (aC (t:=Ti) rfl gG bW j) ?_;refine da (an (t:=Ti) rfl bW rfl) ?_;refine da (tA rfl U3 Un) ?_;refine db (Do rfl) ?_;refine db (IB rfl) ?_;refine df cU ?_;refine ja (cV rfl) ?_;refine fl t5 ?_;refine aP rfl rfl (aN rfl FW rfl rfl rfl) ⟨rfl,rfl,trivial⟩ ?_;refine nl ?_;exact jz ((),IntKind.u64.wrap ((IntKind.u64.wrap ((IntKind.u64.wrap (a0.2.2 * 6364136223846793005))+1442695040888963407))+(IntKind.u64.wrap ((IntKind.u64.wrap x3) * 2862933555777941757)))) h [0]
  .refine aZ (ax ?_);exact jz ((),IntKind.u64.wrap ((IntKind.u64.wrap (a0.2.2 * 6364136223846793005))+1442695040888963407)) h [0]
 .
  refine sr (mq ?_);refine ja (cV rfl) ?_;refine fl zx ?_;refine lo bW ?_;obtain⟨x4,e,h⟩:=aa h;refine jb (bi rfl e) ?_;refine ja (cV rfl) ?_;refine fl zx ?_;refine aP rfl rfl (aN rfl bW rfl rfl rfl) ⟨rfl,rfl,trivial⟩ ?_;refine nt (aj (bL ?_));refine dm ?_;refine da (cV rfl) ?_;refine da (au rfl t5) ?_;refine ea 0 (ao rfl FW jr rfl) ?_;refine dm ?_;refine da (cV rfl) ?_;refine da (au rfl t5) ?_;refine ea 0 (ao rfl FW jr rfl) ?_;refine fW rfl rfl rfl (vE rfl (by decide)) ⟨rfl,rfl,trivial⟩ ?_;refine df cU ?_;refine jb (Ox rfl) ?_;refine aq (nt (sr ?_));refine mq ?_;refine jb (Do rfl) ?_;refine aq (nt (sr ?_));iterate 2 refine mq ?_
  refine cp rfl (vE rfl (by decide)) ⟨rfl,rfl,trivial⟩ ?_;refine jb (Ox rfl) ?_;refine cp rfl (vE rfl (by decide)) ⟨rfl,rfl,trivial⟩ ?_;refine aq (nt (aA ?_));cases h;exact aQ () [_] 1 ⟨rfl,trivial⟩ rfl
def cG(k:Nat)(a0:bQ)(a1:Int):Option (Int×bQ):=
 if a1 < 1 then(some (0,(a0.1,a0.2.1,a0.2.2))) else((iU k (a0.1,a0.2.1,a0.2.2)).bind λr1=>
 (ck (a1+1)).bind λx2=>
 (bR ((IntKind.u64.wrap x2)≠0)).bind λ_=>
 (ck (Int.tmod r1.1 (IntKind.u64.wrap x2))).bind λx4=>
 some (x4,(r1.2.1,r1.2.2.1,r1.2.2.2)))
theorem cS(k:Nat)(a0:bQ)(c:Nat)(a1:Int)(r:Int×bQ)(h:cG k a0 a1=some r):
 cP Tryz.prog 24 [Pt c,I a1] [.obj c 74 (.agg (.pair (.rep Tl a0.1) (.pair (I a0.2.1) (.eq (.int .u64 a0.2.2)))))] (λ_:Unit=>(bu [I r.1],[.obj c 74 (.agg (.pair (.rep Tl r.2.1) (.pair (I r.2.2.1) (.eq (.int .u64 r.2.2.2)))))])):=by
 unfold cG at h
 replace h:=aS h
 refine cP.of 14 Tryz.func24 rfl Tryz.ntmps24 rfl λS w0=>?_
 refine sr ?_
 refine cq ?_
 refine nt ?_
 refine aj ?_
 refine sr ?_
 refine mq ?_
 refine jb (bp rfl) ?_
 refine nt ?_
 refine ci h (λh=>?_) (λh=>?_)
 .
  refine sr (cq (nt (rx ?_)));cases h;exact aQ () [_] 1 ⟨rfl,trivial⟩ rfl
 .
  refine sk (sr (mq ?_));obtain⟨r1,n,h⟩:=aa h;refine ka (av [.tmp 7] rfl rfl Vj rfl (tU k (a0.1,a0.2.1,a0.2.2) c r1 n)) ?_;refine mq ?_;obtain⟨x2,j,h⟩:=aa h;refine jb (bi rfl j) ?_;refine ja (tA rfl U3 Un) ?_;obtain⟨u3,l,h⟩:=aa h;refine jb (RD rfl (ap l)) ?_;obtain⟨x4,e,h⟩:=aa h;refine ja (AU rfl Un U3 e) ?_;refine aq (nt (aA ?_));cases h;exact aQ () [_] 1 ⟨rfl,trivial⟩ rfl
def fJ(k:Nat)(a0:bQ)(a1:Int):Option (Bool×bQ):=
 (ck (a1 - 1)).bind λx1=>
 (cG k (a0.1,a0.2.1,a0.2.2) x1).bind λr2=>
 some (decide (r2.1=0),(r2.2.1,r2.2.2.1,r2.2.2.2))
theorem kh(k:Nat)(a0:bQ)(c:Nat)(a1:Int)(r:Bool×bQ)(h:fJ k a0 a1=some r):
 cP Tryz.prog 46 [Pt c,I a1] [.obj c 74 (.agg (.pair (.rep Tl a0.1) (.pair (I a0.2.1) (.eq (.int .u64 a0.2.2)))))] (λ_:Unit=>(bu [.eq (.bool r.1)],[.obj c 74 (.agg (.pair (.rep Tl r.2.1) (.pair (I r.2.2.1) (.eq (.int .u64 r.2.2.2)))))])):=by
 unfold fJ at h
 replace h:=aS h
 refine cP.of 10 Tryz.func46 rfl Tryz.ntmps46 rfl λS w0=>?_
 refine sr ?_
 refine cq ?_
 refine nt ?_
 refine sr ?_
 iterate 2 refine mq ?_
 obtain⟨x1,e,h⟩:=aa h
 refine jb (eC rfl e) ?_
 obtain⟨r2,j,h⟩:=aa h
 have l:=cS k (a0.1,a0.2.1,a0.2.2) c x1 r2 j
 refine kb (av [.tmp 5,.tmp 7] rfl rfl xq rfl l) ?_
 refine jb (jG rfl) ?_
 refine aq ?_
 refine nt ?_
 refine aA ?_
 cases h
 exact aQ () [_] 1 ⟨rfl,trivial⟩ rfl
def gd(k:Nat)(a0:bQ)(a1:Int)(a2:Int):Option (Int×bQ):=
 (ck (a2 - a1)).bind λx1=>
 (cG k (a0.1,a0.2.1,a0.2.2) x1).bind λr2=>
 (ck (a1+r2.1)).bind λx3=>
 some (x3,(r2.2.1,r2.2.2.1,r2.2.2.2))
theorem jP(k:Nat)(a0:bQ)(c:Nat)(a1:Int)(a2:Int)(r:Int×bQ)(h:gd k a0 a1 a2=some r):
 cP Tryz.prog 98 [Pt c,I a1,I a2] [.obj c 74 (.agg (.pair (.rep Tl a0.1) (.pair (I a0.2.1) (.eq (.int .u64 a0.2.2)))))] (λ_:Unit=>(bu [I r.1],[.obj c 74 (.agg (.pair (.rep Tl r.2.1) (.pair (I r.2.2.1) (.eq (.int .u64 r.2.2.2)))))])):=by
 unfold gd at h
 replace h:=aS h
 refine cP.of 14 Tryz.func98 rfl Tryz.ntmps98 rfl λS w0=>?_
 refine sr ?_
 refine cq ?_
 refine nt ?_
 refine sr ?_
 iterate 4 refine mq ?_
 obtain⟨x1,j,h⟩:=aa h
 refine jb (eC rfl j) ?_
 obtain⟨r2,l,h⟩:=aa h
 have n:=cS k (a0.1,a0.2.1,a0.2.2) c x1 r2 l
 refine kb (av [.tmp 8,.tmp 11] rfl rfl xq rfl n) ?_
 obtain⟨x3,e,h⟩:=aa h
 refine jb (bi rfl e) ?_
 refine aq ?_
 refine nt ?_
 refine aA ?_
 cases h
 exact aQ () [_] 1 ⟨rfl,trivial⟩ rfl
def iy(k:Nat)(a0:bQ)(a1:(List Int)):Option (Int×bQ):=
 (ck ((a1.length:Int) - 1)).bind λx1=>
 (cG k (a0.1,a0.2.1,a0.2.2) x1).bind λr2=>
 (aH a1 r2.1).bind λx3=>
 some (x3,(r2.2.1,r2.2.2.1,r2.2.2.2))
theorem my(k:Nat)(a0:bQ)(c:Nat)(a1:(List Int))(r:Int×bQ)(h:iy k a0 a1=some r):
 cP Tryz.prog 99 [Pt c,.rep Tl a1] [.obj c 74 (.agg (.pair (.rep Tl a0.1) (.pair (I a0.2.1) (.eq (.int .u64 a0.2.2)))))] (λ_:Unit=>(bu [I r.1],[.obj c 74 (.agg (.pair (.rep Tl r.2.1) (.pair (I r.2.2.1) (.eq (.int .u64 r.2.2.2)))))])):=by
 unfold iy at h
 replace h:=aS h
 refine cP.of 13 Tryz.func99 rfl Tryz.ntmps99 rfl λS w0=>?_
 refine sr ?_
 refine cq ?_
 refine nt ?_
 refine sr ?_
 iterate 3 refine mq ?_
 refine ol gG ?_
 obtain⟨x1,j,h⟩:=aa h
 refine jb (eC rfl j) ?_
 obtain⟨r2,l,h⟩:=aa h
 have n:=cS k (a0.1,a0.2.1,a0.2.2) c x1 r2 l
 refine kb (av [.tmp 6,.tmp 9] rfl rfl xq rfl n) ?_
 obtain⟨x3,e,h⟩:=aa h
 refine jb (aC (t:=Ti) rfl gG bW e) ?_
 refine ja (an (t:=Ti) rfl bW rfl) ?_
 refine aq ?_
 refine nt ?_
 refine aA ?_
 cases h
 exact aQ () [_] 1 ⟨rfl,trivial⟩ rfl
def eD(k:Nat)(a1:Int):Nat->((List Int)×Int×Int×(List Int)×Int)->Option ((List Int)×(List Int)×Int×Int)
 |0,_=>none
 |n+1,y3=>
  if y3.2.2.2.2 < a1 then((cG k (y3.1,y3.2.1,y3.2.2.1) y3.2.2.2.2).bind λr5=>
  (bR (be (length y3.2.2.2.1+length [y3.2.2.2.2]))).bind λ_=>
  (aH (y3.2.2.2.1++[y3.2.2.2.2]) r5.1).bind λx8=>
  (aH (y3.2.2.2.1++[y3.2.2.2.2]) y3.2.2.2.2).bind λx9=>
  (aH (List.set (y3.2.2.2.1++[y3.2.2.2.2]) (Int.toNat y3.2.2.2.2) x8) r5.1).bind λe=>
  (ck (y3.2.2.2.2+1)).bind λc=>
  eD k a1 n (r5.2.1,r5.2.2.1,r5.2.2.2,List.set (List.set (y3.2.2.2.1++[y3.2.2.2.2]) (Int.toNat y3.2.2.2.2) x8) (Int.toNat r5.1) y3.2.2.2.2,c)) else(some (y3.2.2.2.1,y3.1,y3.2.1,y3.2.2.1))
def iz(k:Nat)(a0:bQ)(a1:Int):Option ((List Int)×bQ):=
 ((eD k a1 k (a0.1,a0.2.1,a0.2.2,([]:(List Int)),0)):Option ((List Int)×(List Int)×Int×Int)).bind λx1=>
 some (x1.1,(x1.2.1,x1.2.2.1,x1.2.2.2))
theorem sR(k:Nat)(a0:bQ)(c:Nat)(a1:Int)(r:(List Int)×bQ)(h:iz k a0 a1=some r):
 cP Tryz.prog 117 [Pt c,I a1] [.obj c 74 (.agg (.pair (.rep Tl a0.1) (.pair (I a0.2.1) (.eq (.int .u64 a0.2.2)))))] (λ_:Unit=>(bu [.rep Tl r.1],[.obj c 74 (.agg (.pair (.rep Tl r.2.1) (.pair (I r.2.2.1) (.eq (.int .u64 r.2.2.2)))))])):=by
 unfold iz at h
 replace h:=aS h
 refine cP.of 32 Tryz.func117 rfl Tryz.ntmps117 rfl λS w0=>?_
 refine sr ?_
 refine cq ?_
 refine nt ?_
 refine sr ?_
 refine cq ?_
 refine nt ?_
 refine aE (Z:=Value) (α:=(List Int)×(List Int)×Int×Int) (λz2 x1=>[(5,.eq z2)]) (λz2 x1=>[.sl z2 3 Ti x1.1,.obj c 74 (.agg (.pair (.rep Tl x1.2.1) (.pair (I x1.2.2.1) (.eq (.int .u64 x1.2.2.2)))))]) h (λK h=>?_) (λz2 x1 h=>?_)
 .
  refine sr (cq (nt (ai ?_)));refine iC (SE.nil 3 Ti) ?_;refine aD (λz4 y3=>[(0,Pt c),(1,I a1),(5,.eq z4),(6,I y3.2.2.2.2)]) (λz4 y3=>[.obj c 74 (.agg (.pair (.rep Tl y3.1) (.pair (I y3.2.1) (.eq (.int .u64 y3.2.2.1))))),.sl z4 3 Ti y3.2.2.2.1]) (eD k a1) k (.slice none 0 0) (a0.1,a0.2.1,a0.2.2,([]:(List Int)),0) (λ_=>rfl) h (SE.fin [1,0] ⟨rfl,rfl,rfl,rfl,trivial⟩ rfl) (λn z4 y3 h=>?_);unfold eD at h;refine aj (sr ?_);iterate 2 refine mq ?_
  refine jb (bp rfl) ?_;refine nt (ci h (λh=>?_) (λh=>?_))
  .refine sk (aj (ai (sr ?_)));iterate 2 refine mq ?_
   obtain⟨r5,y,h⟩:=aa h;refine kb (av [.tmp 13,.tmp 14] rfl rfl xq rfl (cS k (y3.1,y3.2.1,y3.2.2.1) c y3.2.2.2.2 r5 y)) ?_;refine aq (nt (sr ?_));iterate 2 refine mq ?_
   refine ja (aX (t:=Ti) [(.tmp 17,_)] [y3.2.2.2.2] rfl rfl cY (.cons rfl .int .nil) rfl rfl) ?_;obtain⟨u6,x,h⟩:=aa h;refine fr 1 ?_;refine cQ rfl rfl rfl (bq rfl rfl cY (ap x)) ⟨rfl,rfl,trivial⟩ λv7=>?_;refine aq (nt (ae ?_));iterate 6 refine mq ?_
   obtain⟨x8,l,h⟩:=aa h;refine kb (cI (t:=Ti) rfl gG bW l) ?_;refine ka (gZ (i:=Int.toNat r5.1) (off:=0) rfl bW (λ_=>rfl) rfl (dM l).2.2 rfl) ?_;refine mq ?_;obtain⟨x9,j,h⟩:=aa h;refine kb (cI (t:=Ti) rfl gG bW j) ?_;refine aP rfl rfl (io (i:=Int.toNat y3.2.2.2.2) rfl bW rfl (oG j) rfl .int rfl) ⟨rfl,rfl,trivial⟩ ?_;obtain⟨D,e,h⟩:=aa h;refine kb (cI (t:=Ti) rfl gG bW e) ?_;refine aP rfl rfl (io (i:=Int.toNat r5.1) rfl bW rfl (oG e) rfl .int rfl) ⟨rfl,rfl,trivial⟩ ?_;refine aG (aK (tn (ae (mq ?_))));obtain⟨u,s,h⟩:=aa h;refine jb (bi rfl s) ?_;refine aq (nl ?_);exact jz (v7,(r5.2.1,r5.2.2.1,r5.2.2.2,List.set (List.set (y3.2.2.2.1++[y3.2.2.2.2]) (Int.toNat y3.2.2.2.2) x8) (Int.toNat r5.1) y3.2.2.2.2,u)) h [1,0]
  .refine xa ?_;exact jz (z4,(y3.2.2.2.1,y3.1,y3.2.1,y3.2.2.1)) h [1,0]
 .
  refine sr (mq ?_);refine aq (nt (aA ?_));refine bC (gB [4,5,31] ⟨rfl,rfl,rfl,trivial⟩) ?_;cases h;exact aQ () [_] 1 ⟨rfl,trivial⟩ rfl
def iW(k:Nat)(a0:bQ)(a1:zF):Option (aR×bQ):=
 (ck (a1.1 - 1)).bind λx3=>
 (cG k (a0.1,a0.2.1,a0.2.2) x3).bind λr4=>
 (cG k (r4.2.1,r4.2.2.1,r4.2.2.2) (a1.2.2.2.2.1.length:Int)).bind λr5=>
 (fJ k (r5.2.1,r5.2.2.1,r5.2.2.2) 2).bind λr6=>
 some ((r4.1,r5.1,r6.1),(r6.2.1,r6.2.2.1,r6.2.2.2))
theorem tX(k:Nat)(a0:bQ)(c:Nat)(a1:zF)(r:aR×bQ)(h:iW k a0 a1=some r):
 cP Tryz.prog 67 [Pt c,.rep Eu a1] [.obj c 74 (.agg (.pair (.rep Tl a0.1) (.pair (I a0.2.1) (.eq (.int .u64 a0.2.2)))))] (λ_:Unit=>(bu [.rep aJ r.1],[.obj c 74 (.agg (.pair (.rep Tl r.2.1) (.pair (I r.2.2.1) (.eq (.int .u64 r.2.2.2)))))])):=by
 unfold iW at h
 replace h:=aS h
 refine cP.of 18 Tryz.func67 rfl Tryz.ntmps67 rfl λS w0=>?_
 refine sr ?_
 refine bx λb1=>?_
 refine aY rfl rfl rfl (bA rfl FO NH) trivial λb2=>?_
 refine nt ?_
 refine aj ?_
 refine G6 [1,2,3,5,6,7,8,10,0,4,9,11,12,13] (by kernel_rfl) ?_
 refine bT rfl rfl rfl (au rfl fK) ⟨rfl,trivial⟩ ?_
 refine hJ 1 rfl rfl rfl rfl (ao rfl bW jr rfl) ⟨rfl,trivial⟩ ?_
 obtain⟨x3,E,h⟩:=aa h
 refine bT rfl rfl rfl (eC rfl E) ⟨rfl,rfl,trivial⟩ ?_
 refine bT rfl rfl rfl (aW rfl) ⟨rfl,trivial⟩ ?_
 refine bT rfl rfl rfl (au rfl cf) ⟨rfl,trivial⟩ ?_
 refine hJ 1 rfl rfl rfl rfl (ao rfl fG jr rfl) ⟨rfl,trivial⟩ ?_
 refine bT rfl rfl rfl (pA rfl rfl pU) ⟨rfl,trivial⟩ ?_
 refine bT rfl rfl rfl (aW rfl) ⟨rfl,trivial⟩ ?_
 refine bT rfl rfl rfl (aW rfl) ⟨rfl,trivial⟩ ?_
 refine uk 9 [true,true,true,false,false,false,false,false,true] [9,14] [1] [.obj b1 25 (.rep Eu a1)] rfl (by kernel_rfl) (by kernel_rfl) (by kernel_rfl) cU (λvs hv hB=>?_)
 obtain⟨w0,Wn,rfl,D⟩:=aF hv
 obtain⟨w1,zz,rfl,y⟩:=aF D
 obtain⟨w2,qt,rfl,x⟩:=aF y
 obtain⟨w3,mw,rfl,u⟩:=aF x
 obtain⟨w4,mc,rfl,s⟩:=aF u
 obtain⟨w5,gw,rfl,n⟩:=aF s
 obtain⟨w6,Z,rfl,l⟩:=aF n
 obtain⟨w7,Y,rfl,j⟩:=aF l
 obtain⟨w8,X,rfl,e⟩:=aF j
 obtain rfl:=qq e
 refine⟨[1,0,2],[.obj b2 27 (.agg (.pair (I 0) (.pair (I 0) (.eq (.bool false))))),.obj c 74 (.agg (.pair (.rep Tl a0.1) (.pair (I a0.2.1) (.eq (.int .u64 a0.2.2)))))],by kernel_rfl,by decide,?_⟩
 obtain⟨r4,M,h⟩:=aa h
 have U:=cS k (a0.1,a0.2.1,a0.2.2) c x3 r4 M
 refine pZ 1 rfl ?_
 refine ug rfl rfl rfl rfl (av [.tmp 5,.tmp 8] rfl rfl xq rfl U) ⟨rfl,rfl,trivial⟩ (by kernel_rfl) ?_
 obtain⟨r5,J,h⟩:=aa h
 have Q:=cS k (r4.2.1,r4.2.2.1,r4.2.2.2) c (a1.2.2.2.2.1.length:Int) r5 J
 refine ug rfl rfl rfl rfl (av [.tmp 10,.tmp 13] rfl rfl xq rfl Q) ⟨rfl,rfl,trivial⟩ (by kernel_rfl) ?_
 refine QJ (by kernel_rfl) ?_
 obtain⟨r6,F,h⟩:=aa h
 have O:=kh k (r5.2.1,r5.2.2.1,r5.2.2.2) c 2 r6 F
 refine fr 1 ?_
 refine kb (av [.tmp 15,.const (.int .i64 (2))] rfl rfl Qi rfl O) ?_
 refine jc (eH [(0,.tmp 9,_),(1,.tmp 14,_),(2,.tmp 16,_)] rfl Ru FO OO (kH ⟨rfl,rfl,rfl,trivial⟩) rfl) ?_
 refine fr 2 ?_
 refine aP rfl rfl (aN rfl nq trivial rfl rfl) ⟨rfl,rfl,trivial⟩ ?_
 refine nt ?_
 refine aA ?_
 refine bC (iJ (a:=.agg (.pair (I r4.1) (.pair (I r5.1) (.eq (.bool r6.1))))) (a':=.rep aJ (r4.1,r5.1,r6.1)) (kw (.agg (.pair .int (.pair .int .bool))))) ?_
 refine bC (SE.fin (Γ':=[(4,_)]) [1,0,2] ⟨rfl,trivial⟩ rfl) ?_
 cases h
 exact aQ () [.rep aJ (r4.1,r5.1,r6.1)] 1 ⟨⟨_,_,_,_,_,rfl,(.tail _ (.head _)),nq,(qp),rfl⟩,trivial⟩ rfl
def fH(k:Nat)(a0:Int)(a1:Int)(a2:Int):Option Bool:=
 ((if a1≤a0 then(some (decide (a0≤a2))) else(some false)):Option (Bool)).bind λx1=>
 some x1
theorem gX(k:Nat)(a0:Int)(a1:Int)(a2:Int)(r:Bool)(h:fH k a0 a1 a2=some r):
 cP Tryz.prog 56 [I a0,I a1,I a2] [] (λ_:Unit=>(bu [.eq (.bool r)],[])):=by
 unfold fH at h
 replace h:=aS h
 refine cP.of 15 Tryz.func56 rfl Tryz.ntmps56 rfl λS w0=>?_
 refine sr ?_
 refine cq ?_
 refine nt ?_
 refine aE (Z:=Unit) (α:=Bool) (λz2 x1=>[(6,.eq (.bool x1))]) (λz2 x1=>[]) h (λK h=>?_) (λz2 x1 h=>?_)
 .
  refine ae ?_;iterate 2 refine mq ?_
  refine jb (iQ rfl) ?_;refine mq ?_;refine ce (s:=10) rfl (λhb=>?_) (λhb=>?_)
  .replace h:=eh (wi hb) h;refine gm ?_;refine gm ?_;refine gb (AS rfl) ?_;refine pt ?_;refine aq (nl ?_);exact jz ((),decide (a0≤a2)) h []
  .replace h:=cH (wj hb) h;iterate 3 refine gn ?_
   refine pf ?_;refine aq (nl ?_);exact jz ((),false) h []
 .
  refine aA ?_;cases h;exact ra
def gW(k:Nat)(a0:ab)(a1:Int):Option Bool:=
 (fH k a1 0 (IntKind.i64.wrap (a0.1 - 1))).bind λr2=>
 some r2
theorem nL(k:Nat)(a0:ab)(a1:Int)(r:Bool)(h:gW k a0 a1=some r):
 cP Tryz.prog 76 [.rep am a0,I a1] [] (λ_:Unit=>(bu [.eq (.bool r)],[])):=by
 unfold gW at h
 replace h:=aS h
 refine cP.of 10 Tryz.func76 rfl Tryz.ntmps76 rfl λS w0=>?_
 refine sr ?_
 refine bx λb1=>?_
 refine cq ?_
 refine nt ?_
 refine sr ?_
 refine mq ?_
 refine fl fK ?_
 refine lo bW ?_
 refine jb (PR rfl) ?_
 obtain⟨r2,c,h⟩:=aa h
 have e:=gX k a1 0 (IntKind.i64.wrap (a0.1 - 1)) r2 c
 refine jc (av [.tmp 5,.const (.int .i64 (0)),.tmp 8] rfl rfl Gw rfl e) ?_
 refine aq ?_
 refine nt ?_
 refine aA ?_
 cases h
 exact ra
def ik(k:Nat)(a0:(List Int))(a1:Int):Nat->Int->Option (Except Bool Unit)
 |0,_=>none
 |n+1,y3=>
  if y3 < (a0.length:Int) then((aH a0 y3).bind λx5=>
  if x5=a1 then(some (.error true)) else((ck (y3+1)).bind λx6=>
  ik k a0 a1 n x6)) else(some (.ok ()))
def om(k:Nat)(a0:(List Int))(a1:Int):Option Bool:=
 bE (α:=Unit) (ik k a0 a1 k 0) (some) λ_=>
 some false
theorem ri(k:Nat)(a0:(List Int))(a1:Int)(r:Bool)(h:om k a0 a1=some r):
 cP Tryz.prog 77 [.rep Tl a0,I a1] [] (λ_:Unit=>(bu [.eq (.bool r)],[])):=by
 unfold om at h
 replace h:=aS h
 refine cP.of 18 Tryz.func77 rfl Tryz.ntmps77 rfl λS w0=>?_
 refine sr ?_
 refine cq ?_
 refine nt ?_
 refine cR (Z:=Unit) (α:=Unit) (λz2 x1=>[]) (λz2 x1=>[]) (λe=>e=r) h (λe h=>Option.some.inj h) (λK hR h=>?_) (λz2 x1 h=>?_)
 .
  refine sr (cq (nt (ai ?_)));refine aD (λz4 y3=>[(0,.rep Tl a0),(1,I a1),(5,I y3)]) (λz4 y3=>[]) (ik k a0 a1) k () 0 (λ_=>rfl) h (SE.fin [] ⟨rfl,rfl,rfl,trivial⟩ rfl) (λn z4 y3 h=>?_);unfold ik at h;refine aj (sr ?_);iterate 2 refine mq ?_
  refine ol gG ?_;refine jb (bp rfl) ?_;refine nt (ci h (λh=>?_) (λh=>?_))
  .refine sk (aj (ai (sr ?_)));iterate 2 refine mq ?_
   obtain⟨x5,j,h⟩:=aa h;refine jb (aC (t:=Ti) rfl gG bW j) ?_;refine ja (an (t:=Ti) rfl bW rfl) ?_;refine mq ?_;refine jb (jG rfl) ?_;refine nt (ci h (λh=>?_) (λh=>?_))
   .refine sr (cq (nt (aA (br (bb (bg ?_))))));obtain rfl:=hR _ h;exact ra
   .refine aZ (aK (tn (ae (mq ?_))));obtain⟨x6,c,h⟩:=aa h;refine jb (bi rfl c) ?_;refine aq (nl ?_);exact jz ((),x6) h []
  .refine xa ?_;exact jz ((),()) h []
 .
  refine sr (cq (nt (aA ?_)));cases h;exact ra
def dO(k:Nat)(a0:ab)(a1:(List (List Int)))(y4:(List Int)×Int):Nat->((List Int)×Int)->Option (Except Int (List Int))
 |0,_=>none
 |n+1,y8=>
  (aH a1 y4.2).bind λu=>
  if y8.2 < (u.length:Int) then((aH a1 y4.2).bind λs=>
  (aH s y8.2).bind λr=>
  (gW k a0 r).bind λy=>
  if¬(y=true) then(some (.error 3)) else((aH a1 y4.2).bind λl=>
  (aH l y8.2).bind λj=>
  (om k y8.1 j).bind λx=>
  if x=true then(some (.error 4)) else((aH a1 y4.2).bind λh=>
  (aH h y8.2).bind λc=>
  (bR (be (length y8.1+length [c]))).bind λ_=>
  (ck (y8.2+1)).bind λe=>
  dO k a0 a1 y4 n (y8.1++[c],e)))) else(some (.ok y8.1))
def dP(k:Nat)(a0:ab)(a1:(List (List Int))):Nat->((List Int)×Int)->Option (Except Int Unit)
 |0,_=>none
 |n+1,y4=>
  if y4.2 < (a1.length:Int) then(bE (α:=(List Int)) (dO k a0 a1 y4 k (y4.1,0)) (λe=>some (.error e)) λx6=>
  (ck (y4.2+1)).bind λc=>
  dP k a0 a1 n (x6,c)) else(some (.ok ()))
def jE(k:Nat)(a0:ab)(a1:(List (List Int))):Option Int:=
 if 3 < (a1.length:Int) then(some 6) else(bE (α:=Unit) (dP k a0 a1 k (([]:(List Int)),0)) (some) λ_=>
 some 0)
theorem uH(k:Nat)(a0:ab)(a1:(List (List Int)))(r:Int)(h:jE k a0 a1=some r):
 cP Tryz.prog 57 [.rep am a0,.rep (.slice Tl) a1] [] (λ_:Unit=>(bu [I r],[])):=by
 unfold jE at h
 replace h:=aS h
 refine cP.of 55 Tryz.func57 rfl Tryz.ntmps57 rfl λS w0=>?_
 refine sr ?_
 refine bx λb1=>?_
 refine cq ?_
 refine nt ?_
 refine aj ?_
 refine sr ?_
 refine mq ?_
 refine ol oa ?_
 refine jb (jp rfl) ?_
 refine nt ?_
 refine ci h (λh=>?_) (λh=>?_)
 .
  refine sr (cq (nt (rx ?_)));cases h;exact ra
 .
  refine sk (sr (cq (nt ?_)));refine cR (Z:=Unit) (α:=Unit) (λz3 x2=>[]) (λz3 x2=>[]) (λe=>e=r) h (λe h=>Option.some.inj h) (λK hR h=>?_) (λz3 x2 h=>?_)
  .refine sr (cq (nt (ai ?_)));refine iC (SE.nil 3 Ti) ?_;refine aD (λz5 y4=>[(1,.rep (.slice Tl) a1),(2,Pt b1),(5,.eq z5),(6,I y4.2)]) (λz5 y4=>[.obj b1 25 (.rep am a0),.sl z5 3 Ti y4.1]) (dP k a0 a1) k (.slice none 0 0) (([]:(List Int)),0) (λ_=>rfl) h (SE.fin [1,0] ⟨rfl,rfl,rfl,rfl,trivial⟩ rfl) (λn z5 y4 h=>?_);unfold dP at h;refine aj (sr ?_);iterate 2 refine mq ?_
   refine ol oa ?_;refine jb (bp rfl) ?_;refine nt (ci h (λh=>?_) (λh=>?_))
   .refine sk (cR (Z:=Value) (α:=(List Int)) (λz7 x6=>[(1,.rep (.slice Tl) a1),(2,Pt b1),(5,.eq z7),(6,I y4.2)]) (λz7 x6=>[.obj b1 25 (.rep am a0),.sl z7 3 Ti x6]) (λe=>e=r) h (λe h=>hR e h) (λK hR h=>?_) (λz7 x6 h=>?_))
    .refine ai (sr (cq (nt (ai ?_))));refine aD (λz9 y8=>[(1,.rep (.slice Tl) a1),(2,Pt b1),(5,.eq z9),(6,I y4.2),(7,I y8.2)]) (λz9 y8=>[.obj b1 25 (.rep am a0),.sl z9 3 Ti y8.1]) (dO k a0 a1 y4) k z5 (y4.1,0) (λ_=>rfl) h (SE.fin [0,1] ⟨rfl,rfl,rfl,rfl,rfl,trivial⟩ rfl) (λn z9 y8 h=>?_);unfold dO at h;refine aj (sr ?_);iterate 3 refine mq ?_
     obtain⟨Wp,J,h⟩:=aa h;refine jb (aC (t:=Tl) rfl oa eR J) ?_;refine ja (an (t:=Tl) rfl eR rfl) ?_;refine ol gG ?_;refine jb (bp rfl) ?_;refine nt (ci h (λh=>?_) (λh=>?_))
     .refine sk (aj (ai (aj (aj (bL ?_)))));refine ea 0 (ao rfl dp (qp) rfl) ?_;refine dm ?_;refine dm ?_;obtain⟨Wn,F,h⟩:=aa h;refine db (aC (t:=Tl) rfl oa eR F) ?_;refine da (an (t:=Tl) rfl eR rfl) ?_;refine dm ?_;obtain⟨Y,E,h⟩:=aa h;refine db (aC (t:=Ti) rfl gG bW E) ?_;refine da (an (t:=Ti) rfl bW rfl) ?_;refine df cU ?_;obtain⟨mw,Q,h⟩:=aa h;refine jb (av [.tmp 26,.tmp 33] rfl rfl SR rfl (nL k a0 Y mw Q)) ?_;refine ja (eS rfl) ?_;refine nt (cw h (λh=>?_) (λh=>?_))
      .refine sr (cq (nt (rx (br (bb (br (bb (bg ?_))))))));obtain rfl:=hR _ h;exact ra
      .refine sk (aj (sr ?_));iterate 3 refine mq ?_
       obtain⟨zz,D,h⟩:=aa h;refine jb (aC (t:=Tl) rfl oa eR D) ?_;refine ja (an (t:=Tl) rfl eR rfl) ?_;refine mq ?_;obtain⟨j,y,h⟩:=aa h;refine jb (aC (t:=Ti) rfl gG bW y) ?_;refine ja (an (t:=Ti) rfl bW rfl) ?_;obtain⟨mc,O,h⟩:=aa h;refine fr 1 ?_;refine kb (ko (N:=[(.tmp 36,.eq z9),(.tmp 43,I j)]) (av [.tmp 36,.tmp 43] rfl rfl Qg rfl (ri k y8.1 j mc O)) (λ_ _ _ hv hn=>⟨(lend hn.1 hv),hn.2.1,trivial⟩) (λ_=>⟨rfl,nV⟩)) ?_;refine nt (cv h (λh=>?_) (λh=>?_))
       .refine sr (cq (nt (rx (br (bb (br (bb (bg ?_))))))));obtain rfl:=hR _ h;exact ra
       .refine sk (ae ?_);iterate 3 refine mq ?_
        obtain⟨qt,x,h⟩:=aa h;refine jb (aC (t:=Tl) rfl oa eR x) ?_;refine ja (an (t:=Tl) rfl eR rfl) ?_;refine mq ?_;obtain⟨c,u,h⟩:=aa h;refine jb (aC (t:=Ti) rfl gG bW u) ?_;refine ja (an (t:=Ti) rfl bW rfl) ?_;refine ja (aX (t:=Ti) [(.tmp 52,_)] [c] rfl rfl cY (.cons rfl .int .nil) rfl rfl) ?_;obtain⟨Wq,M,h⟩:=aa h;refine cQ rfl rfl rfl (bq rfl rfl cY (ap M)) ⟨rfl,rfl,trivial⟩ λgw=>?_;refine aq (aG (aK (tn (ae ?_))));refine mq ?_;obtain⟨X,s,h⟩:=aa h;refine jb (bi rfl s) ?_;refine aq (nl ?_);exact jz (gw,(y8.1++[c],X)) h [1,0]
     .refine fF (bK (bK (c6 (bn ?_))));exact jz (z9,y8.1) h [0,1]
    .refine ae (mq ?_);obtain⟨U,l,h⟩:=aa h;refine jb (bi rfl l) ?_;refine aq (nl ?_);exact jz (z7,(x6,U)) h [0,1]
   .refine xa ?_;exact jz ((),()) h []
  .refine sr (cq (nt (aA ?_)));cases h;exact ra
def iP(k:Nat)(a0:ab)(a1:Int):Option Bool:=
 (fH k a1 0 (a0.2.2.2.2.1.length:Int)).bind λr2=>
 some r2
theorem tl(k:Nat)(a0:ab)(a1:Int)(r:Bool)(h:iP k a0 a1=some r):
 cP Tryz.prog 64 [.rep am a0,I a1] [] (λ_:Unit=>(bu [.eq (.bool r)],[])):=by
 unfold iP at h
 replace h:=aS h
 refine cP.of 10 Tryz.func64 rfl Tryz.ntmps64 rfl λS w0=>?_
 refine sr ?_
 refine bx λb1=>?_
 refine cq ?_
 refine nt ?_
 refine sr ?_
 refine mq ?_
 refine fl cf ?_
 refine lo fG ?_
 refine ol pU ?_
 obtain⟨r2,c,h⟩:=aa h
 have e:=gX k a1 0 (a0.2.2.2.2.1.length:Int) r2 c
 refine jc (av [.tmp 5,.const (.int .i64 (0)),.tmp 8] rfl rfl Gw rfl e) ?_
 refine aq ?_
 refine nt ?_
 refine aA ?_
 cases h
 exact ra
def gJ(k:Nat)(a0:ab)(a1:aR):Option Int:=
 (((gW k a0 a1.1).bind λr5=>
 if¬(r5=true) then(some true) else((iP k a0 a1.2.1).bind λr6=>
 some (!r6))):Option (Bool)).bind λx3=>
 if x3=true then(some 3) else(some 0)
theorem rj(k:Nat)(a0:ab)(a1:aR)(r:Int)(h:gJ k a0 a1=some r):
 cP Tryz.prog 58 [.rep am a0,.rep aJ a1] [] (λ_:Unit=>(bu [I r],[])):=by
 unfold gJ at h
 replace h:=aS h
 refine cP.of 17 Tryz.func58 rfl Tryz.ntmps58 rfl λS w0=>?_
 refine sr ?_
 refine bx λb1=>?_
 refine bx λb2=>?_
 refine cq ?_
 refine nt ?_
 refine aj ?_
 refine aE (Z:=Unit) (α:=Bool) (λz4 x3=>[(16,.eq (.bool x3))]) (λz4 x3=>[]) h (λK h=>?_) (λz4 x3 h=>?_)
 .
  refine ae (fr 1 ?_);refine lo dp ?_;refine fl zA ?_;refine fr 1 ?_;refine lo bW ?_;obtain⟨r5,e,h⟩:=aa h;refine jb (av [.tmp 5,.tmp 7] rfl rfl SR rfl (nL k a0 a1.1 r5 e)) ?_;refine ja (eS rfl) ?_;refine mq ?_;refine ce (s:=10) rfl (λhb=>?_) (λhb=>?_)
  .replace h:=eh (sG hb) h;iterate 5 refine gn ?_
   refine pt (nl ?_);exact jz ((),true) h []
  .replace h:=cH (mX hb) h;refine fr 1 ?_;refine eW rfl rfl rfl rfl rfl rfl (ao rfl dp (qp) rfl) ⟨rfl,trivial⟩ ?_;refine ga (au rfl zy) ?_;refine fr 1 ?_;refine eW rfl rfl rfl rfl rfl rfl (ao rfl bW jr rfl) ⟨rfl,trivial⟩ ?_;obtain⟨r6,c,h⟩:=aa h;refine gb (av [.tmp 11,.tmp 13] rfl rfl Vh rfl (tl k a0 a1.2.1 r6 c)) ?_;refine ga (eS rfl) ?_;refine pf (nl ?_);exact jz ((), !r6) h []
 .
  refine cv h (λh=>?_) (λh=>?_)
  .refine sr (cq (nt (rx ?_)));cases h;exact ra
  .refine sk (sr (cq (nt (aA ?_))));cases h;exact ra
def fp(k:Nat)(a0:ab):Nat->Int->Option (Except Int Unit)
 |0,_=>none
 |n+1,c=>
  if c < (a0.2.2.2.2.1.length:Int) then((aH a0.2.2.2.2.1 c).bind λj=>
  (jE k a0 j).bind λe=>
  if¬(e=0) then(some (.error e)) else((ck (c+1)).bind λh=>
  fp k a0 n h)) else(some (.ok ()))
def fo(k:Nat)(a0:ab):Nat->Int->Option (Except Int Unit)
 |0,_=>none
 |n+1,c=>
  if c < (a0.2.2.2.2.2.length:Int) then((aH a0.2.2.2.2.2 c).bind λj=>
  (gJ k a0 j).bind λe=>
  if¬(e=0) then(some (.error e)) else((ck (c+1)).bind λh=>
  fo k a0 n h)) else(some (.ok ()))
def lN(k:Nat)(a0:ab):Option Int:=
 (((fH k a0.1 1 5).bind λr4=>
 if¬(r4=true) then(some true) else((fH k a0.2.1 0 3).bind λr5=>
 if¬(r5=true) then(some true) else((fH k a0.2.2.1 0 3).bind λr6=>
 if¬(r6=true) then(some true) else((fH k a0.2.2.2.1 1 3).bind λr7=>
 some (!r7))))):Option (Bool)).bind λx2=>
 if x2=true then(some 1) else(if(a0.2.2.2.2.1.length:Int)=0 then(some 7) else(if 6 < (a0.2.2.2.2.1.length:Int) then(some 6) else(bE (α:=Unit) (fp k a0 k 0) (some) λ_=>
 if 8 < (a0.2.2.2.2.2.length:Int) then(some 6) else(bE (α:=Unit) (fo k a0 k 0) (some) λ_=>
 some 0))))
theorem sw(k:Nat)(a0:ab)(r:Int)(h:lN k a0=some r):
 cP Tryz.prog 20 [.rep am a0] [] (λ_:Unit=>(bu [I r],[])):=by
 unfold lN at h
 replace h:=aS h
 refine cP.of 75 Tryz.func20 rfl Tryz.ntmps20 rfl λS w0=>?_
 refine sr ?_
 refine bx λb1=>?_
 refine cq ?_
 refine nt ?_
 refine aj ?_
 refine aE (Z:=Unit) (α:=Bool) (λz3 x2=>[(1,Pt b1),(28,.eq (.bool x2))]) (λz3 x2=>[.obj b1 25 (.rep am a0)]) h (λK h=>?_) (λz3 x2 h=>?_)
 .
  refine ae (fl fK ?_);refine lo bW ?_;obtain⟨r4,Wn,h⟩:=aa h;refine jc (av [.tmp 8,.const (.int .i64 (1)),.const (.int .i64 (5))] rfl rfl Gw rfl (gX k a0.1 1 5 r4 Wn)) ?_;refine ja (eS rfl) ?_;refine mq ?_;refine ce (s:=11) rfl (λhb=>?_) (λhb=>?_)
  .replace h:=eh (sG hb) h;iterate 4 refine gn ?_
   refine pt ?_;refine mq ?_;iterate 4 refine gn ?_
   refine pt ?_;refine mq ?_;iterate 4 refine gn ?_
   refine pt (nl ?_);exact jz ((),true) h [0]
  .replace h:=cH (mX hb) h;refine ga (au rfl pQ) ?_;refine eW rfl rfl rfl rfl rfl rfl (ao rfl bW jr rfl) ⟨rfl,trivial⟩ ?_;obtain⟨r5,zz,h⟩:=aa h;refine gc (av [.tmp 13,.const (.int .i64 (0)),.const (.int .i64 (3))] rfl rfl Gw rfl (gX k a0.2.1 0 3 r5 zz)) ?_;refine ga (eS rfl) ?_;refine pf ?_;refine mq ?_;refine ce (s:=17) rfl (λhb=>?_) (λhb=>?_)
   .replace h:=eh (sG hb) h;iterate 4 refine gn ?_
    refine pt ?_;refine mq ?_;iterate 4 refine gn ?_
    refine pt (nl ?_);exact jz ((),true) h [0]
   .replace h:=cH (mX hb) h;refine ga (au rfl rP) ?_;refine eW rfl rfl rfl rfl rfl rfl (ao rfl bW jr rfl) ⟨rfl,trivial⟩ ?_;obtain⟨r6,qt,h⟩:=aa h;refine gc (av [.tmp 19,.const (.int .i64 (0)),.const (.int .i64 (3))] rfl rfl Gw rfl (gX k a0.2.2.1 0 3 r6 qt)) ?_;refine ga (eS rfl) ?_;refine pf ?_;refine mq ?_;refine ce (s:=23) rfl (λhb=>?_) (λhb=>?_)
    .replace h:=eh (sG hb) h;iterate 4 refine gn ?_
     refine pt (nl ?_);exact jz ((),true) h [0]
    .replace h:=cH (mX hb) h;refine ga (au rfl t6) ?_;refine eW rfl rfl rfl rfl rfl rfl (ao rfl bW jr rfl) ⟨rfl,trivial⟩ ?_;obtain⟨r7,mw,h⟩:=aa h;refine gc (av [.tmp 25,.const (.int .i64 (1)),.const (.int .i64 (3))] rfl rfl Gw rfl (gX k a0.2.2.2.1 1 3 r7 mw)) ?_;refine ga (eS rfl) ?_;refine pf (nl ?_);exact jz ((), !r7) h [0]
 .
  refine cv h (λh=>?_) (λh=>?_)
  .refine sr (cq (nt (rx ?_)));cases h;exact ra
  .refine sk (aj (sr (fl cf ?_)));refine lo fG ?_;refine ol pU ?_;refine jb (jG rfl) ?_;refine nt (ci h (λh=>?_) (λh=>?_))
   .refine sr (cq (nt (rx ?_)));cases h;exact ra
   .refine sk (aj (sr (fl cf ?_)));refine lo fG ?_;refine ol pU ?_;refine jb (jp rfl) ?_;refine nt (ci h (λh=>?_) (λh=>?_))
    .refine sr (cq (nt (rx ?_)));cases h;exact ra
    .refine sk (cR (Z:=Unit) (α:=Unit) (λz9 x8=>[(1,Pt b1)]) (λz9 x8=>[.obj b1 25 (.rep am a0)]) (λe=>e=r) h (λe h=>Option.some.inj h) (λK hR h=>?_) (λz9 x8 h=>?_))
     .refine sr (cq (nt (ai ?_)));refine aD (λx j=>[(1,Pt b1),(3,I j)]) (λx j=>[.obj b1 25 (.rep am a0)]) (fp k a0) k () 0 (λ_=>rfl) h (SE.fin [0] ⟨rfl,rfl,trivial⟩ rfl) (λn x j h=>?_);unfold fp at h;refine aj (sr (mq ?_));refine fl cf ?_;refine lo fG ?_;refine ol pU ?_;refine jb (bp rfl) ?_;refine nt (ci h (λh=>?_) (λh=>?_))
      .refine sk (aj (ai (aj (bL ?_))));refine ea 0 (ao rfl dp (qp) rfl) ?_;refine da (au rfl cf) ?_;refine ea 0 (ao rfl fG jr rfl) ?_;refine dm ?_;obtain⟨Y,J,h⟩:=aa h;refine db (aC (t:=(.slice Tl)) rfl pU kF J) ?_;refine da (an (t:=(.slice Tl)) rfl kF rfl) ?_;refine df cU ?_;obtain⟨mc,O,h⟩:=aa h;refine jb (av [.tmp 44,.tmp 49] rfl rfl Vl rfl (uH k a0 Y mc O)) ?_;refine aq (nt (sr ?_));refine mq ?_;refine jb (dV rfl) ?_;refine nt (cn h (λh=>?_) (λh=>?_))
       .refine sr (mq ?_);refine aq (nt (aA (br (bb (bg ?_)))));obtain rfl:=hR _ h;exact ra
       .refine aZ (aK (tn (ae (mq ?_))));obtain⟨X,F,h⟩:=aa h;refine jb (bi rfl F) ?_;refine aq (nl ?_);exact jz ((),X) h [0]
      .refine xa ?_;exact jz ((),()) h [0]
     .refine aj (sr (fl fS ?_));refine lo nF ?_;refine ol CJ ?_;refine jb (jp rfl) ?_;refine nt (ci h (λh=>?_) (λh=>?_))
      .refine sr (cq (nt (rx ?_)));cases h;exact ra
      .refine sk (cR (Z:=Unit) (α:=Unit) (λu y=>[]) (λu y=>[]) (λe=>e=r) h (λe h=>Option.some.inj h) (λK hR h=>?_) (λu y h=>?_))
       .refine sr (cq (nt (ai ?_)));refine aD (λl c=>[(1,Pt b1),(5,I c)]) (λl c=>[.obj b1 25 (.rep am a0)]) (fo k a0) k () 0 (λ_=>rfl) h (SE.fin [0] ⟨rfl,rfl,trivial⟩ rfl) (λn l c h=>?_);unfold fo at h;refine aj (sr (mq ?_));refine fl fS ?_;refine lo nF ?_;refine ol CJ ?_;refine jb (bp rfl) ?_;refine nt (ci h (λh=>?_) (λh=>?_))
        .refine sk (aj (ai (aj (bL ?_))));refine ea 0 (ao rfl dp (qp) rfl) ?_;refine da (au rfl fS) ?_;refine ea 0 (ao rfl nF jr rfl) ?_;refine dm ?_;obtain⟨U,E,h⟩:=aa h;refine db (aC (t:=aJ) rfl CJ nq E) ?_;refine da (an (t:=aJ) rfl nq rfl) ?_;refine df cU ?_;obtain⟨gw,M,h⟩:=aa h;refine jb (av [.tmp 65,.tmp 70] rfl rfl Vk rfl (rj k a0 U gw M)) ?_;refine aq (nt (sr ?_));refine mq ?_;refine jb (dV rfl) ?_;refine nt (cn h (λh=>?_) (λh=>?_))
         .refine sr (mq ?_);refine aq (nt (aA (br (bb (bg ?_)))));obtain rfl:=hR _ h;exact ra
         .refine aZ (aK (tn (ae (mq ?_))));obtain⟨Q,D,h⟩:=aa h;refine jb (bi rfl D) ?_;refine aq (nl ?_);exact jz ((),Q) h [0]
        .refine xa ?_;exact jz ((),()) h []
       .refine sr (cq (nt (aA ?_)));cases h;exact ra
def d5(k:Nat)(a2:Int)(e:(List Int)):Nat->Int->Option (Except ((List Int)×Bool) Unit)
 |0,_=>none
 |n+1,c=>
  if c < (e.length:Int) then((aH e c).bind λD=>
  if¬(D=a2) then((ck (c+1)).bind λy=>
  d5 k a2 e n y) else(((if 0 < c then((ck (c - 1)).bind λx=>
  (aH e x).bind λl=>
  (bR (be (length ([]:(List Int))+length [l]))).bind λ_=>
  some (([]:(List Int))++[l])) else(some ([]:(List Int)))):Option ((List Int))).bind λh=>
  (((ck (c+1)).bind λs=>
  if s < (e.length:Int) then((ck (c+1)).bind λr=>
  (aH e r).bind λj=>
  (bR (be (length h+length [j]))).bind λ_=>
  some (h++[j])) else(some h)):Option ((List Int))).bind λu=>
  some (.error (u,true)))) else(some (.ok ()))
def eM(k:Nat)(a0:ab)(a1:Int)(a2:Int):Nat->Int->Option (Except ((List Int)×Bool) Unit)
 |0,_=>none
 |n+1,y4=>
  (aH a0.2.2.2.2.1 a1).bind λx6=>
  if y4 < (x6.length:Int) then(bE (α:=Unit) ((aH a0.2.2.2.2.1 a1).bind λx9=>
  (aH x9 y4).bind λh=>
  d5 k a2 h k 0) (λe=>some (.error e)) λ_=>
  (ck (y4+1)).bind λc=>
  eM k a0 a1 a2 n c) else(some (.ok ()))
def jX(k:Nat)(a0:ab)(a1:Int)(a2:Int):Option ((List Int)×Bool):=
 bE (α:=Unit) (eM k a0 a1 a2 k 0) (some) λ_=>
 some (([]:(List Int)),false)
theorem qO(k:Nat)(a0:ab)(a1:Int)(a2:Int)(r:(List Int)×Bool)(h:jX k a0 a1 a2=some r):
 cP Tryz.prog 81 [.rep am a0,I a1,I a2] [] (λ_:Unit=>(bu [.rep Tl r.1,.eq (.bool r.2)],[])):=by
 unfold jX at h
 replace h:=aS h
 refine cP.of 66 Tryz.func81 rfl Tryz.ntmps81 rfl λS w0=>?_
 refine sr ?_
 refine bx λb1=>?_
 refine cq ?_
 refine cq ?_
 refine nt ?_
 refine cR (Z:=Unit) (α:=Unit) (λz3 x2=>[]) (λz3 x2=>[]) (λe=>e=r) h (λe h=>Option.some.inj h) (λK hR h=>?_) (λz3 x2 h=>?_)
 .
  refine sr (cq (nt (ai ?_)));refine aD (λz5 y4=>[(1,I a1),(2,I a2),(3,Pt b1),(8,I y4)]) (λz5 y4=>[.obj b1 25 (.rep am a0)]) (eM k a0 a1 a2) k () 0 (λ_=>rfl) h (SE.fin [0] ⟨rfl,rfl,rfl,rfl,trivial⟩ rfl) (λn z5 y4 h=>?_);unfold eM at h;refine aj (sr (mq ?_));refine fl cf ?_;refine lo fG ?_;refine mq ?_;obtain⟨x6,Wt,h⟩:=aa h;refine jb (aC (t:=(.slice Tl)) rfl pU kF Wt) ?_;refine ja (an (t:=(.slice Tl)) rfl kF rfl) ?_;refine ol oa ?_;refine jb (bp rfl) ?_;refine nt (ci h (λh=>?_) (λh=>?_))
  .refine sk (cR (Z:=Unit) (α:=Unit) (λz8 x7=>[(1,I a1),(2,I a2),(3,Pt b1),(8,I y4)]) (λz8 x7=>[.obj b1 25 (.rep am a0)]) (λe=>e=r) h (λe h=>hR e h) (λK hR h=>?_) (λz8 x7 h=>?_))
   .refine ai (sr (fl cf ?_));refine lo fG ?_;refine mq ?_;obtain⟨x9,Ws,h⟩:=aa h;refine jb (aC (t:=(.slice Tl)) rfl pU kF Ws) ?_;refine ja (an (t:=(.slice Tl)) rfl kF rfl) ?_;refine mq ?_;obtain⟨y,mc,h⟩:=aa h;refine jb (aC (t:=Tl) rfl oa eR mc) ?_;refine ja (an (t:=Tl) rfl eR rfl) ?_;refine aq (nt (sr ?_));refine cq (nt (ai ?_));refine aD (λD s=>[(1,I a1),(2,I a2),(3,Pt b1),(8,I y4),(9,.rep Tl y),(10,I s)]) (λD s=>[.obj b1 25 (.rep am a0)]) (d5 k a2 y) k () 0 (λ_=>rfl) h (SE.fin [0] ⟨rfl,rfl,rfl,rfl,rfl,rfl,trivial⟩ rfl) (λn D s h=>?_);unfold d5 at h;refine aj (sr ?_);iterate 2 refine mq ?_
    refine ol gG ?_;refine jb (bp rfl) ?_;refine nt (ci h (λh=>?_) (λh=>?_))
    .refine sk (aj (ai (aj (sr ?_))));iterate 2 refine mq ?_
     obtain⟨Wy,gw,h⟩:=aa h;refine jb (aC (t:=Ti) rfl gG bW gw) ?_;refine ja (an (t:=Ti) rfl bW rfl) ?_;refine mq ?_;refine jb (dV rfl) ?_;refine nt (cn h (λh=>?_) (λh=>?_))
     .refine fF (bK (c6 (tn (ae (mq ?_)))));obtain⟨Wn,Y,h⟩:=aa h;refine jb (bi rfl Y) ?_;refine aq (nl ?_);exact jz ((),Wn) h [0]
     .refine sk (sr (cq (nt ?_)));refine aE (Z:=Value) (α:=(List Int)) (λc j=>[(9,.rep Tl y),(10,I s),(11,.eq c)]) (λc j=>[.sl c 3 Ti j]) h (λK h=>?_) (λc j h=>?_)
      .refine sr (mq ?_);refine jb (jp rfl) ?_;refine nt (ci h (λh=>?_) (λh=>?_))
       .refine ae ?_;iterate 3 refine mq ?_
        obtain⟨Wx,X,h⟩:=aa h;refine jb (eC rfl X) ?_;obtain⟨F,U,h⟩:=aa h;refine jb (aC (t:=Ti) rfl gG bW U) ?_;refine ja (an (t:=Ti) rfl bW rfl) ?_;refine ja (aX (t:=Ti) [(.tmp 49,_)] [F] rfl rfl cY (.cons rfl .int .nil) rfl rfl) ?_;refine eE (SE.nil 3 Ti) ?_;obtain⟨WA,qt,h⟩:=aa h;refine cQ rfl rfl rfl (bq rfl rfl cY (ap qt)) ⟨rfl,rfl,trivial⟩ λWq=>?_;refine aq (nl ?_);exact jz (Wq,([]:(List Int))++[F]) h [0]
       .refine aZ (ax (bC (SE.nil 3 Ti) ?_));exact jz ((.slice none 0 0),([]:(List Int))) h [0]
      .refine aE (Z:=Value) (α:=(List Int)) (λl u=>[(11,.eq l)]) (λl u=>[.sl l 3 Ti u]) h (λK h=>?_) (λl u h=>?_)
       .refine sr (mq ?_);obtain⟨Wv,Q,h⟩:=aa h;refine jb (bi rfl Q) ?_;refine mq ?_;refine ol gG ?_;refine jb (bp rfl) ?_;refine nt (ci h (λh=>?_) (λh=>?_))
        .refine ae ?_;iterate 3 refine mq ?_
         obtain⟨Wu,O,h⟩:=aa h;refine jb (bi rfl O) ?_;obtain⟨E,M,h⟩:=aa h;refine jb (aC (t:=Ti) rfl gG bW M) ?_;refine ja (an (t:=Ti) rfl bW rfl) ?_;refine ja (aX (t:=Ti) [(.tmp 62,_)] [E] rfl rfl cY (.cons rfl .int .nil) rfl rfl) ?_;obtain⟨Wz,mw,h⟩:=aa h;refine cQ rfl rfl rfl (bq rfl rfl cY (ap mw)) ⟨rfl,rfl,trivial⟩ λWp=>?_;refine aq (nl ?_);exact jz (Wp,j++[E]) h [0]
        .refine aZ (ax ?_);exact jz (c,j) h [0]
       .refine sr (mq ?_);refine aq ?_;refine cq (nt (aA (br (bb (br (bb (bg ?_)))))));refine bC (gB [6,11,65] ⟨rfl,rfl,rfl,trivial⟩) ?_;obtain rfl:=hR _ h;exact rb
    .refine fF (bK (bK (c6 (bn ?_))));exact jz ((),()) h [0]
   .refine ae (mq ?_);obtain⟨zz,J,h⟩:=aa h;refine jb (bi rfl J) ?_;refine aq (nl ?_);exact jz ((),zz) h [0]
  .refine xa ?_;exact jz ((),()) h []
 .
  refine sr (cq ?_);refine cq (nt (aA ?_));refine bC (dL (t:=Tl) (x:=([]:(List Int))) 6 rfl .nil rfl rfl) ?_;cases h;exact rb
def fj(k:Nat)(a0:ab)(a2:Int):Nat->(Int×Int)->Option (Except Int Int)
 |0,_=>none
 |n+1,y4=>
  if 0≤y4.2 then((jX k a0 y4.2 a2).bind λr6=>
  if r6.2=true then(some (.error y4.1)) else((ck (y4.1+1)).bind λx7=>
  (ck (y4.2 - 1)).bind λx8=>
  fj k a0 a2 n (x7,x8))) else(some (.ok y4.1))
def pu(k:Nat)(a0:ab)(a1:Int)(a2:Int):Option Int:=
 bE (α:=Int) (fj k a0 a2 k (0,a1)) (some) λx2=>
 some x2
theorem AH(k:Nat)(a0:ab)(a1:Int)(a2:Int)(r:Int)(h:pu k a0 a1 a2=some r):
 cP Tryz.prog 116 [.rep am a0,I a1,I a2] [] (λ_:Unit=>(bu [I r],[])):=by
 unfold pu at h
 replace h:=aS h
 refine cP.of 28 Tryz.func116 rfl Tryz.ntmps116 rfl λS w0=>?_
 refine sr ?_
 refine bx λb1=>?_
 refine cq ?_
 refine nt ?_
 refine sr ?_
 refine cq ?_
 refine nt ?_
 refine cR (Z:=Unit) (α:=Int) (λz3 x2=>[(7,I x2)]) (λz3 x2=>[]) (λe=>e=r) h (λe h=>Option.some.inj h) (λK hR h=>?_) (λz3 x2 h=>?_)
 .
  refine sr (mq ?_);refine aq (nt (ai ?_));refine aD (λz5 y4=>[(2,I a2),(3,Pt b1),(7,I y4.1),(8,I y4.2)]) (λz5 y4=>[.obj b1 25 (.rep am a0)]) (fj k a0 a2) k () (0,a1) (λ_=>rfl) h (SE.fin [0] ⟨rfl,rfl,rfl,rfl,trivial⟩ rfl) (λn z5 y4 h=>?_);unfold fj at h;refine aj (sr (mq ?_));refine jb (iQ rfl) ?_;refine nt (ci h (λh=>?_) (λh=>?_))
  .refine sk (aj (ai (aj (sr (lo dp ?_)))));iterate 2 refine mq ?_
   obtain⟨r6,l,h⟩:=aa h;refine jc (av [.tmp 17,.tmp 18,.tmp 19] rfl rfl SQ rfl (qO k a0 y4.2 a2 r6 l)) ?_;refine mq ?_;refine xr ?_;refine xr ?_;refine aq ?_;refine aq (nt (sr ?_));refine mq (nt ?_);refine cv h (λh=>?_) (λh=>?_)
   .refine sr (mq ?_);refine aq (nt (rx (br (bb (bg ?_)))));obtain rfl:=hR _ h;exact ra
   .refine sk (ae (mq ?_));obtain⟨x7,j,h⟩:=aa h;refine jb (bi rfl j) ?_;refine aq (aG (aK (tn (ae ?_))));refine mq ?_;obtain⟨x8,c,h⟩:=aa h;refine jb (eC rfl c) ?_;refine aq (nl ?_);exact jz ((),(x7,x8)) h [0]
  .refine xa ?_;exact jz ((),y4.1) h []
 .
  refine sr (mq ?_);refine aq (nt (aA ?_));cases h;exact ra
def fi(k:Nat)(a0:ab)(a2:(List Int))(r8:(List Int)×Bool):Nat->(Int×Int)->Option Int
 |0,_=>none
 |n+1,c=>
  if c.2 < (r8.1.length:Int) then((((aH r8.1 c.2).bind λj=>
  (aH a2 j).bind λh=>
  if a0.2.1≤h then(some 0) else(some c.1)):Option (Int)).bind λl=>
  (ck (c.2+1)).bind λe=>
  fi k a0 a2 r8 n (l,e)) else(some c.1)
def fY(k:Nat)(a0:ab)(a1:Int)(a2:(List Int)):Nat->((List Int)×Int)->Option (List Int)
 |0,_=>none
 |n+1,y4=>
  if y4.2 < a0.1 then((((jX k a0 a1 y4.2).bind λr8=>
  ((if¬(r8.2=true) then((pu k a0 a1 y4.2).bind λs=>
  some (decide (a0.2.2.2.1≤s))) else(some false)):Option (Bool)).bind λx9=>
  if x9=true then((bR (be (length y4.1+length [(-1:Int)]))).bind λ_=>
  some (y4.1++[(-1:Int)])) else(if¬(r8.2=true) then((aH a2 y4.2).bind λh=>
  (bR (be (length y4.1+length [h]))).bind λ_=>
  some (y4.1++[h])) else((aH a2 y4.2).bind λr=>
  if 0≤r then((aH a2 y4.2).bind λl=>
  (ck (l+1)).bind λe=>
  (bR (be (length y4.1+length [e]))).bind λ_=>
  some (y4.1++[e])) else(((fi k a0 a2 r8 k ((-1:Int),0)):Option (Int)).bind λc=>
  (bR (be (length y4.1+length [c]))).bind λ_=>
  some (y4.1++[c]))))):Option ((List Int))).bind λx6=>
  (ck (y4.2+1)).bind λj=>
  fY k a0 a1 a2 n (x6,j)) else(some y4.1)
def pr(k:Nat)(a0:ab)(a1:Int)(a2:(List Int)):Option (List Int):=
 ((fY k a0 a1 a2 k (([]:(List Int)),0)):Option ((List Int))).bind λx2=>
 some x2
theorem AG(k:Nat)(a0:ab)(a1:Int)(a2:(List Int))(r:(List Int))(h:pr k a0 a1 a2=some r):
 cP Tryz.prog 96 [.rep am a0,I a1,.rep Tl a2] [] (λ_:Unit=>(bu [.rep Tl r],[])):=by
 unfold pr at h
 replace h:=aS h
 refine cP.of 86 Tryz.func96 rfl Tryz.ntmps96 rfl λS w0=>?_
 refine sr ?_
 refine bx λb1=>?_
 refine cq ?_
 refine nt ?_
 refine sr ?_
 refine cq ?_
 refine nt ?_
 refine aE (Z:=Value) (α:=(List Int)) (λz3 x2=>[(7,.eq z3)]) (λz3 x2=>[.sl z3 3 Ti x2]) h (λK h=>?_) (λz3 x2 h=>?_)
 .
  refine sr (cq (nt (ai ?_)));refine iC (SE.nil 3 Ti) ?_;refine aD (λz5 y4=>[(1,I a1),(2,.rep Tl a2),(3,Pt b1),(7,.eq z5),(8,I y4.2)]) (λz5 y4=>[.obj b1 25 (.rep am a0),.sl z5 3 Ti y4.1]) (fY k a0 a1 a2) k (.slice none 0 0) (([]:(List Int)),0) (λ_=>rfl) h (SE.fin [1,0] ⟨rfl,rfl,rfl,rfl,rfl,trivial⟩ rfl) (λn z5 y4 h=>?_);unfold fY at h;refine aj (sr (mq ?_));refine fl fK ?_;refine lo bW ?_;refine jb (bp rfl) ?_;refine nt (ci h (λh=>?_) (λh=>?_))
  .refine sk (aE (Z:=Value) (α:=(List Int)) (λz7 x6=>[(1,I a1),(2,.rep Tl a2),(3,Pt b1),(7,.eq z7),(8,I y4.2)]) (λz7 x6=>[.obj b1 25 (.rep am a0),.sl z7 3 Ti x6]) h (λK h=>?_) (λz7 x6 h=>?_))
   .refine ai (sr (lo dp ?_));iterate 2 refine mq ?_
    obtain⟨r8,Wv,h⟩:=aa h;refine jc (av [.tmp 20,.tmp 21,.tmp 22] rfl rfl SQ rfl (qO k a0 a1 y4.2 r8 Wv)) ?_;refine mq ?_;refine xr ?_;refine xr ?_;refine aq ?_;refine aq (nt (ai ?_));refine aE (Z:=Unit) (α:=Bool) (λx x9=>[(1,I a1),(2,.rep Tl a2),(3,Pt b1),(7,.eq z5),(8,I y4.2),(9,.rep Tl r8.1),(10,.eq (.bool r8.2)),(46,.eq (.bool x9))]) (λx x9=>[.obj b1 25 (.rep am a0),.sl z5 3 Ti y4.1]) h (λK h=>?_) (λx x9 h=>?_)
    .refine bL ?_;refine dm ?_;refine da (eS rfl) ?_;refine lK rfl rfl rfl (aW rfl) ⟨rfl,trivial⟩ (λhb=>?_) (λhb=>?_)
     .replace h:=eh (sG hb) h;refine ig 0 rfl rfl rfl rfl rfl rfl (ao rfl dp (qp) rfl) ⟨rfl,rfl,trivial⟩ ?_;refine bo rfl rfl rfl rfl rfl (aW rfl) ⟨rfl,rfl,trivial⟩ ?_;refine bo rfl rfl rfl rfl rfl (aW rfl) ⟨rfl,rfl,trivial⟩ ?_;obtain⟨E,zz,h⟩:=aa h;refine bo rfl rfl rfl rfl rfl (av [.tmp 50,.tmp 51,.tmp 52] rfl rfl TA rfl (AH k a0 a1 y4.2 E zz)) ⟨rfl,rfl,rfl,rfl,trivial⟩ ?_;refine bo rfl rfl rfl rfl rfl (au rfl t6) ⟨rfl,rfl,trivial⟩ ?_;refine ig 0 rfl rfl rfl rfl rfl rfl (ao rfl bW jr rfl) ⟨rfl,rfl,trivial⟩ ?_;refine df cU ?_;refine gb (iQ rfl) ?_;refine pt ?_;refine aq (nl ?_);exact jz ((),decide (a0.2.2.2.1≤E)) h [0,1]
     .replace h:=cH (mX hb) h;iterate 6 refine dg ?_
      refine df cU ?_;refine gn ?_;refine pf ?_;refine aq (nl ?_);exact jz ((),false) h [0,1]
    .refine cv h (λh=>?_) (λh=>?_)
     .refine ae (mq ?_);refine ja (aX (t:=Ti) [(.const (.int .i64 (-1)),_)] [(-1:Int)] rfl rfl cY (.cons rfl .int .nil) rfl rfl) ?_;obtain⟨WG,qt,h⟩:=aa h;refine fr 1 ?_;refine cQ rfl rfl rfl (bq rfl rfl cY (ap qt)) ⟨rfl,rfl,trivial⟩ λWu=>?_;refine aq (aG (aK (bn ?_)));exact jz (Wu,y4.1++[(-1:Int)]) h [1,0]
     .refine sr (mq ?_);refine ja (eS rfl) ?_;refine aq (nt ?_);refine cw h (λh=>?_) (λh=>?_)
      .refine ae ?_;iterate 3 refine mq ?_
       obtain⟨D,Y,h⟩:=aa h;refine jb (aC (t:=Ti) rfl gG bW Y) ?_;refine ja (an (t:=Ti) rfl bW rfl) ?_;refine ja (aX (t:=Ti) [(.tmp 68,_)] [D] rfl rfl cY (.cons rfl .int .nil) rfl rfl) ?_;obtain⟨WE,mw,h⟩:=aa h;refine fr 1 ?_;refine cQ rfl rfl rfl (bq rfl rfl cY (ap mw)) ⟨rfl,rfl,trivial⟩ λWt=>?_;refine aq (aG (aK (bn ?_)));exact jz (Wt,y4.1++[D]) h [1,0]
      .refine sr ?_;iterate 2 refine mq ?_
       obtain⟨WA,X,h⟩:=aa h;refine jb (aC (t:=Ti) rfl gG bW X) ?_;refine ja (an (t:=Ti) rfl bW rfl) ?_;refine jb (iQ rfl) ?_;refine aq (nt ?_);refine ci h (λh=>?_) (λh=>?_)
       .refine ae ?_;iterate 3 refine mq ?_
        obtain⟨Wz,U,h⟩:=aa h;refine jb (aC (t:=Ti) rfl gG bW U) ?_;refine ja (an (t:=Ti) rfl bW rfl) ?_;obtain⟨y,Q,h⟩:=aa h;refine jb (bi rfl Q) ?_;refine ja (aX (t:=Ti) [(.tmp 82,_)] [y] rfl rfl cY (.cons rfl .int .nil) rfl rfl) ?_;obtain⟨WC,mc,h⟩:=aa h;refine fr 1 ?_;refine cQ rfl rfl rfl (bq rfl rfl cY (ap mc)) ⟨rfl,rfl,trivial⟩ λWs=>?_;refine aq (aG (aK (bn ?_)));exact jz (Ws,y4.1++[y]) h [1,0]
       .refine sr (cq (nt ?_));refine aE (Z:=Unit) (α:=Int) (λu e=>[(1,I a1),(2,.rep Tl a2),(3,Pt b1),(7,.eq z5),(8,I y4.2),(11,I e)]) (λu e=>[.obj b1 25 (.rep am a0),.sl z5 3 Ti y4.1]) h (λK h=>?_) (λu e h=>?_)
        .refine sr (cq (nt (ai ?_)));refine aD (λs c=>[(1,I a1),(2,.rep Tl a2),(3,Pt b1),(7,.eq z5),(8,I y4.2),(9,.rep Tl r8.1),(11,I c.1),(12,I c.2)]) (λs c=>[.obj b1 25 (.rep am a0),.sl z5 3 Ti y4.1]) (fi k a0 a2 r8) k () ((-1:Int),0) (λ_=>rfl) h (SE.fin [0,1] ⟨rfl,rfl,rfl,rfl,rfl,rfl,rfl,rfl,trivial⟩ rfl) (λn s c h=>?_);unfold fi at h;refine aj (sr ?_);iterate 2 refine mq ?_
         refine ol gG ?_;refine jb (bp rfl) ?_;refine nt (ci h (λh=>?_) (λh=>?_))
         .refine sk (aE (Z:=Unit) (α:=Int) (λl j=>[(1,I a1),(2,.rep Tl a2),(3,Pt b1),(7,.eq z5),(8,I y4.2),(9,.rep Tl r8.1),(11,I j),(12,I c.2)]) (λl j=>[.obj b1 25 (.rep am a0),.sl z5 3 Ti y4.1]) h (λK h=>?_) (λl j h=>?_))
          .refine ai (aj (bL ?_));refine dm ?_;refine dm ?_;refine dm ?_;obtain⟨Wy,O,h⟩:=aa h;refine db (aC (t:=Ti) rfl gG bW O) ?_;refine da (an (t:=Ti) rfl bW rfl) ?_;obtain⟨Wx,M,h⟩:=aa h;refine db (aC (t:=Ti) rfl gG bW M) ?_;refine da (an (t:=Ti) rfl bW rfl) ?_;refine da (au rfl pQ) ?_;refine ea 0 (ao rfl bW jr rfl) ?_;refine df cU ?_;refine jb (iQ rfl) ?_;refine nt (ci h (λh=>?_) (λh=>?_))
           .refine ae (cq (aG (bn ?_)));exact jz ((),0) h [0,1]
           .refine aZ (bn ?_);exact jz ((),c.1) h [0,1]
          .refine ae (mq ?_);obtain⟨Wp,J,h⟩:=aa h;refine jb (bi rfl J) ?_;refine aq (nl ?_);exact jz ((),(j,Wp)) h [0,1]
         .refine xa ?_;exact jz ((),c.1) h [0,1]
        .refine ae ?_;iterate 2 refine mq ?_
         refine ja (aX (t:=Ti) [(.tmp 43,_)] [e] rfl rfl cY (.cons rfl .int .nil) rfl rfl) ?_;obtain⟨WB,gw,h⟩:=aa h;refine fr 1 ?_;refine cQ rfl rfl rfl (bq rfl rfl cY (ap gw)) ⟨rfl,rfl,trivial⟩ λWq=>?_;refine aq (aG (aK (bn ?_)));exact jz (Wq,y4.1++[e]) h [1,0]
   .refine ae (mq ?_);obtain⟨Wn,F,h⟩:=aa h;refine jb (bi rfl F) ?_;refine aq (nl ?_);exact jz (z7,(x6,Wn)) h [0,1]
  .refine xa ?_;exact jz (z5,y4.1) h [1]
 .
  refine sr (mq ?_);refine aq (nt (aA ?_));refine bC (gB [6,7,85] ⟨rfl,rfl,rfl,trivial⟩) ?_;cases h;exact ra
def f5(k:Nat)(a0:ab)(a1:(List Int)):Nat->((List Int)×Int)->Option (List Int)
 |0,_=>none
 |n+1,y4=>
  if y4.2 < a0.1 then((((om k a1 y4.2).bind λr8=>
  if r8=true then((bR (be (length y4.1+length [a0.2.1]))).bind λ_=>
  some (y4.1++[a0.2.1])) else((bR (be (length y4.1+length [(-1:Int)]))).bind λ_=>
  some (y4.1++[(-1:Int)]))):Option ((List Int))).bind λx6=>
  (ck (y4.2+1)).bind λc=>
  f5 k a0 a1 n (x6,c)) else(some y4.1)
def fZ(k:Nat)(a0:ab):Nat->((List (List Int))×Int)->Option (List (List Int))
 |0,_=>none
 |n+1,c=>
  if c.2 < (a0.2.2.2.2.1.length:Int) then((aH c.1 c.2).bind λj=>
  (pr k a0 c.2 j).bind λe=>
  (bR (be (length c.1+length [e]))).bind λ_=>
  (ck (c.2+1)).bind λh=>
  fZ k a0 n (c.1++[e],h)) else(some c.1)
def pw(k:Nat)(a0:ab)(a1:(List Int)):Option (List (List Int)):=
 ((f5 k a0 a1 k (([]:(List Int)),0)):Option ((List Int))).bind λx2=>
 ((fZ k a0 k ([x2],0)):Option ((List (List Int)))).bind λc=>
 some c
theorem AI(k:Nat)(a0:ab)(a1:(List Int))(r:(List (List Int)))(h:pw k a0 a1=some r):
 cP Tryz.prog 52 [.rep am a0,.rep Tl a1] [] (λ_:Unit=>(bu [.rep (.slice Tl) r],[])):=by
 unfold pw at h
 replace h:=aS h
 refine cP.of 46 Tryz.func52 rfl Tryz.ntmps52 rfl λS w0=>?_
 refine sr ?_
 refine bx λb1=>?_
 refine cq ?_
 refine nt ?_
 refine sr ?_
 refine cq ?_
 refine nt ?_
 refine aE (Z:=Value) (α:=(List Int)) (λz3 x2=>[(2,Pt b1),(5,.eq z3)]) (λz3 x2=>[.obj b1 25 (.rep am a0),.sl z3 3 Ti x2]) h (λK h=>?_) (λz3 x2 h=>?_)
 .
  refine sr (cq (nt (ai ?_)));refine iC (SE.nil 3 Ti) ?_;refine aD (λz5 y4=>[(1,.rep Tl a1),(2,Pt b1),(5,.eq z5),(6,I y4.2)]) (λz5 y4=>[.obj b1 25 (.rep am a0),.sl z5 3 Ti y4.1]) (f5 k a0 a1) k (.slice none 0 0) (([]:(List Int)),0) (λ_=>rfl) h (SE.fin [1,0] ⟨rfl,rfl,rfl,rfl,trivial⟩ rfl) (λn z5 y4 h=>?_);unfold f5 at h;refine aj (sr (mq ?_));refine fl fK ?_;refine lo bW ?_;refine jb (bp rfl) ?_;refine nt (ci h (λh=>?_) (λh=>?_))
  .refine sk (aE (Z:=Value) (α:=(List Int)) (λz7 x6=>[(1,.rep Tl a1),(2,Pt b1),(5,.eq z7),(6,I y4.2)]) (λz7 x6=>[.obj b1 25 (.rep am a0),.sl z7 3 Ti x6]) h (λK h=>?_) (λz7 x6 h=>?_))
   .refine ai (sr ?_);iterate 2 refine mq ?_
    obtain⟨r8,mc,h⟩:=aa h;refine jb (av [.tmp 15,.tmp 16] rfl rfl Qg rfl (ri k a1 y4.2 r8 mc)) ?_;refine nt (cv h (λh=>?_) (λh=>?_))
    .refine ae (mq ?_);refine fl pQ ?_;refine lo bW ?_;refine ja (aX (t:=Ti) [(.tmp 20,_)] [a0.2.1] rfl rfl cY (.cons rfl .int .nil) rfl rfl) ?_;obtain⟨u9,gw,h⟩:=aa h;refine fr 1 ?_;refine cQ rfl rfl rfl (bq rfl rfl cY (ap gw)) ⟨rfl,rfl,trivial⟩ λY=>?_;refine aq (aG (bn ?_));exact jz (Y,y4.1++[a0.2.1]) h [1,0]
    .refine ae (mq ?_);refine ja (aX (t:=Ti) [(.const (.int .i64 (-1)),_)] [(-1:Int)] rfl rfl cY (.cons rfl .int .nil) rfl rfl) ?_;obtain⟨qt,E,h⟩:=aa h;refine fr 1 ?_;refine cQ rfl rfl rfl (bq rfl rfl cY (ap E)) ⟨rfl,rfl,trivial⟩ λX=>?_;refine aq (aG (bn ?_));exact jz (X,y4.1++[(-1:Int)]) h [1,0]
   .refine ae (mq ?_);obtain⟨O,y,h⟩:=aa h;refine jb (bi rfl y) ?_;refine aq (nl ?_);exact jz (z7,(x6,O)) h [0,1]
  .refine xa ?_;exact jz (z5,y4.1) h [0,1]
 .
  refine sr (mq ?_);refine fr 1 ?_;refine eE (gB [5,26] ⟨rfl,rfl,trivial⟩) ?_;refine aY rfl rfl rfl (iq (t:=Tl) [(.tmp 26,_)] [x2] rfl rfl lX (.cons rfl .rep .nil) rfl rfl) ⟨rfl,trivial⟩ λU=>?_;refine aq (nt ?_);refine aE (Z:=Value) (α:=(List (List Int))) (λj s=>[(7,.eq j)]) (λj s=>[.sl j 28 Tl s]) h (λK h=>?_) (λj s h=>?_)
  .refine sr (cq (nt (ai ?_)));refine aD (λe c=>[(2,Pt b1),(7,.eq e),(8,I c.2)]) (λe c=>[.obj b1 25 (.rep am a0),.sl e 28 Tl c.1]) (fZ k a0) k U ([x2],0) (λ_=>rfl) h (SE.fin [1,0] ⟨rfl,rfl,rfl,trivial⟩ rfl) (λn e c h=>?_);unfold fZ at h;refine aj (sr (mq ?_));refine fl cf ?_;refine lo fG ?_;refine ol pU ?_;refine jb (bp rfl) ?_;refine nt (ci h (λh=>?_) (λh=>?_))
   .refine sk (aj (ai (bL ?_)));refine dm ?_;refine ea 0 (ao rfl dp (qp) rfl) ?_;refine dm ?_;refine dm ?_;refine dm ?_;obtain⟨M,l,h⟩:=aa h;refine eb 1 (cI (t:=Tl) rfl oa eR l) ?_;refine ea 1 (gZ (i:=Int.toNat c.2) (off:=0) rfl eR (λ_=>rfl) rfl (dM l).2.2 rfl) ?_;obtain⟨u,F,h⟩:=aa h;refine dc (av [.tmp 36,.tmp 37,.tmp 41] rfl rfl U1 rfl (AG k a0 c.2 M u F)) ?_;refine da (aX (t:=Tl) [(.tmp 42,_)] [u] rfl rfl lX (.cons rfl .rep .nil) rfl rfl) ?_;refine df cU ?_;obtain⟨mw,D,h⟩:=aa h;refine fr 1 ?_;refine cQ rfl rfl rfl (bq rfl rfl lX (ap D)) ⟨rfl,rfl,trivial⟩ λQ=>?_;refine aq (aG (aK (tn (ae ?_))));refine mq ?_;obtain⟨J,x,h⟩:=aa h;refine jb (bi rfl x) ?_;refine aq (nl ?_);exact jz (Q,(c.1++[u],J)) h [1,0]
   .refine xa ?_;exact jz (e,c.1) h [1]
  .refine sr (mq ?_);refine aq (nt (aA ?_));refine bC (gB [4,7,45] ⟨rfl,rfl,rfl,trivial⟩) ?_;cases h;exact ra
def dF(k:Nat)(a0:ab)(a1:ab):Nat->Int->Option (Except Bool Unit)
 |0,_=>none
 |n+1,y7=>
  if y7 < (a0.2.2.2.2.1.length:Int) then((aH a0.2.2.2.2.1 y7).bind λx9=>
  (aH a1.2.2.2.2.1 y7).bind λe=>
  (eg k x9 e).bind λh=>
  if¬(h=true) then(some (.error false)) else((ck (y7+1)).bind λc=>
  dF k a0 a1 n c)) else(some (.ok ()))
def dE(k:Nat)(a0:ab)(a1:ab):Nat->Int->Option (Except Bool Unit)
 |0,_=>none
 |n+1,c=>
  if c < (a0.2.2.2.2.2.length:Int) then((aH a0.2.2.2.2.2 c).bind λj=>
  (aH a1.2.2.2.2.2 c).bind λh=>
  if¬(j=h) then(some (.error false)) else((ck (c+1)).bind λe=>
  dE k a0 a1 n e)) else(some (.ok ()))
def iT(k:Nat)(a0:ab)(a1:ab):Option Bool:=
 ((if¬(a0.1=a1.1) then(some true) else(if¬(a0.2.1=a1.2.1) then(some true) else(if¬(a0.2.2.1=a1.2.2.1) then(some true) else(if¬(a0.2.2.2.1=a1.2.2.2.1) then(some true) else(if¬((a0.2.2.2.2.1.length:Int)=(a1.2.2.2.2.1.length:Int)) then(some true) else(some (!decide ((a0.2.2.2.2.2.length:Int)=(a1.2.2.2.2.2.length:Int))))))))):Option (Bool)).bind λx3=>
 if x3=true then(some false) else(bE (α:=Unit) (dF k a0 a1 k 0) (some) λ_=>
 bE (α:=Unit) (dE k a0 a1 k 0) (some) λ_=>
 some true)
theorem tR(k:Nat)(a0:ab)(a1:ab)(r:Bool)(h:iT k a0 a1=some r):
 cP Tryz.prog 22 [.rep am a0,.rep am a1] [] (λ_:Unit=>(bu [.eq (.bool r)],[])):=by
 unfold iT at h
 replace h:=aS h
 refine cP.of 88 Tryz.func22 rfl Tryz.ntmps22 rfl λS w0=>?_
 refine sr ?_
 refine bx λb1=>?_
 refine bx λb2=>?_
 refine cq ?_
 refine nt ?_
 refine aj ?_
 refine aE (Z:=Unit) (α:=Bool) (λz4 x3=>[(2,Pt b1),(3,Pt b2),(50,.eq (.bool x3))]) (λz4 x3=>[.obj b1 25 (.rep am a0),.obj b2 25 (.rep am a1)]) h (λK h=>?_) (λz4 x3 h=>?_)
 .
  refine ae (fl fK ?_);refine fr 1 ?_;refine lo bW ?_;refine fl fK ?_;refine fr 1 ?_;refine lo bW ?_;refine jb (dV rfl) ?_;refine mq ?_;refine ce (s:=12) rfl (λhb=>?_) (λhb=>?_)
  .replace h:=eh (Oz hb) h;iterate 5 refine gn ?_
   refine pt ?_;refine mq ?_;iterate 5 refine gn ?_
   refine pt ?_;refine mq ?_;iterate 5 refine gn ?_
   refine pt ?_;refine mq ?_;iterate 7 refine gn ?_
   refine pt ?_;refine mq ?_;iterate 7 refine gn ?_
   refine pt (nl ?_);exact jz ((),true) h [1,0]
  .replace h:=cH (A4 hb) h;refine ga (au rfl pQ) ?_;refine fr 1 ?_;refine eW rfl rfl rfl rfl rfl rfl (ao rfl bW jr rfl) ⟨rfl,trivial⟩ ?_;refine ga (au rfl pQ) ?_;refine fr 1 ?_;refine eW rfl rfl rfl rfl rfl rfl (ao rfl bW jr rfl) ⟨rfl,trivial⟩ ?_;refine gb (dV rfl) ?_;refine pf ?_;refine mq ?_;refine ce (s:=19) rfl (λhb=>?_) (λhb=>?_)
   .replace h:=eh (Oz hb) h;iterate 5 refine gn ?_
    refine pt ?_;refine mq ?_;iterate 5 refine gn ?_
    refine pt ?_;refine mq ?_;iterate 7 refine gn ?_
    refine pt ?_;refine mq ?_;iterate 7 refine gn ?_
    refine pt (nl ?_);exact jz ((),true) h [1,0]
   .replace h:=cH (A4 hb) h;refine ga (au rfl rP) ?_;refine fr 1 ?_;refine eW rfl rfl rfl rfl rfl rfl (ao rfl bW jr rfl) ⟨rfl,trivial⟩ ?_;refine ga (au rfl rP) ?_;refine fr 1 ?_;refine eW rfl rfl rfl rfl rfl rfl (ao rfl bW jr rfl) ⟨rfl,trivial⟩ ?_;refine gb (dV rfl) ?_;refine pf ?_;refine mq ?_;refine ce (s:=26) rfl (λhb=>?_) (λhb=>?_)
    .replace h:=eh (Oz hb) h;iterate 5 refine gn ?_
     refine pt ?_;refine mq ?_;iterate 7 refine gn ?_
     refine pt ?_;refine mq ?_;iterate 7 refine gn ?_
     refine pt (nl ?_);exact jz ((),true) h [1,0]
    .replace h:=cH (A4 hb) h;refine ga (au rfl t6) ?_;refine fr 1 ?_;refine eW rfl rfl rfl rfl rfl rfl (ao rfl bW jr rfl) ⟨rfl,trivial⟩ ?_;refine ga (au rfl t6) ?_;refine fr 1 ?_;refine eW rfl rfl rfl rfl rfl rfl (ao rfl bW jr rfl) ⟨rfl,trivial⟩ ?_;refine gb (dV rfl) ?_;refine pf ?_;refine mq ?_;refine ce (s:=33) rfl (λhb=>?_) (λhb=>?_)
     .replace h:=eh (Oz hb) h;iterate 7 refine gn ?_
      refine pt ?_;refine mq ?_;iterate 7 refine gn ?_
      refine pt (nl ?_);exact jz ((),true) h [1,0]
     .replace h:=cH (A4 hb) h;refine ga (au rfl cf) ?_;refine fr 1 ?_;refine eW rfl rfl rfl rfl rfl rfl (ao rfl fG jr rfl) ⟨rfl,trivial⟩ ?_;refine ga (pA rfl rfl pU) ?_;refine ga (au rfl cf) ?_;refine fr 1 ?_;refine eW rfl rfl rfl rfl rfl rfl (ao rfl fG jr rfl) ⟨rfl,trivial⟩ ?_;refine ga (pA rfl rfl pU) ?_;refine gb (dV rfl) ?_;refine pf ?_;refine mq ?_;refine ce (s:=42) rfl (λhb=>?_) (λhb=>?_)
      .replace h:=eh (Oz hb) h;iterate 7 refine gn ?_
       refine pt (nl ?_);exact jz ((),true) h [1,0]
      .replace h:=cH (A4 hb) h;refine ga (au rfl fS) ?_;refine fr 1 ?_;refine eW rfl rfl rfl rfl rfl rfl (ao rfl nF jr rfl) ⟨rfl,trivial⟩ ?_;refine ga (pA rfl rfl CJ) ?_;refine ga (au rfl fS) ?_;refine fr 1 ?_;refine eW rfl rfl rfl rfl rfl rfl (ao rfl nF jr rfl) ⟨rfl,trivial⟩ ?_;refine ga (pA rfl rfl CJ) ?_;refine gb (dV rfl) ?_;refine pf (nl ?_);exact jz ((), !decide ((a0.2.2.2.2.2.length:Int)=(a1.2.2.2.2.2.length:Int))) h [1,0]
 .
  refine cv h (λh=>?_) (λh=>?_)
  .refine sr (cq (nt (rx ?_)));cases h;exact ra
  .refine sk (cR (Z:=Unit) (α:=Unit) (λz6 x5=>[(2,Pt b1),(3,Pt b2)]) (λz6 x5=>[.obj b1 25 (.rep am a0),.obj b2 25 (.rep am a1)]) (λe=>e=r) h (λe h=>Option.some.inj h) (λK hR h=>?_) (λz6 x5 h=>?_))
   .refine sr (cq (nt (ai ?_)));refine aD (λz8 y7=>[(2,Pt b1),(3,Pt b2),(5,I y7)]) (λz8 y7=>[.obj b1 25 (.rep am a0),.obj b2 25 (.rep am a1)]) (dF k a0 a1) k () 0 (λ_=>rfl) h (SE.fin [0,1] ⟨rfl,rfl,rfl,trivial⟩ rfl) (λn z8 y7 h=>?_);unfold dF at h;refine aj (sr (mq ?_));refine fl cf ?_;refine lo fG ?_;refine ol pU ?_;refine jb (bp rfl) ?_;refine nt (ci h (λh=>?_) (λh=>?_))
    .refine sk (aj (ai (aj (bL ?_))));refine da (au rfl cf) ?_;refine ea 0 (ao rfl fG jr rfl) ?_;refine dm ?_;obtain⟨x9,X,h⟩:=aa h;refine db (aC (t:=(.slice Tl)) rfl pU kF X) ?_;refine da (an (t:=(.slice Tl)) rfl kF rfl) ?_;refine da (au rfl cf) ?_;refine ea 1 (ao rfl fG jr rfl) ?_;refine dm ?_;obtain⟨Q,F,h⟩:=aa h;refine db (aC (t:=(.slice Tl)) rfl pU kF F) ?_;refine da (an (t:=(.slice Tl)) rfl kF rfl) ?_;refine df cU ?_;obtain⟨U,J,h⟩:=aa h;refine jb (av [.tmp 62,.tmp 67] rfl rfl M7 rfl (iH k x9 Q U J)) ?_;refine ja (eS rfl) ?_;refine nt (cw h (λh=>?_) (λh=>?_))
     .refine sr (cq (nt (aA (br (bb (bg ?_))))));obtain rfl:=hR _ h;exact ra
     .refine aZ (aK (tn (ae (mq ?_))));obtain⟨O,E,h⟩:=aa h;refine jb (bi rfl E) ?_;refine aq (nl ?_);exact jz ((),O) h [0,1]
    .refine xa ?_;exact jz ((),()) h [0,1]
   .refine cR (Z:=Unit) (α:=Unit) (λl u=>[]) (λl u=>[]) (λe=>e=r) h (λe h=>Option.some.inj h) (λK hR h=>?_) (λl u h=>?_)
    .refine sr (cq (nt (ai ?_)));refine aD (λj c=>[(2,Pt b1),(3,Pt b2),(6,I c)]) (λj c=>[.obj b1 25 (.rep am a0),.obj b2 25 (.rep am a1)]) (dE k a0 a1) k () 0 (λ_=>rfl) h (SE.fin [0,1] ⟨rfl,rfl,rfl,trivial⟩ rfl) (λn j c h=>?_);unfold dE at h;refine aj (sr (mq ?_));refine fl fS ?_;refine lo nF ?_;refine ol CJ ?_;refine jb (bp rfl) ?_;refine nt (ci h (λh=>?_) (λh=>?_))
     .refine sk (aj (ai (aj (bL ?_))));refine da (au rfl fS) ?_;refine ea 0 (ao rfl nF jr rfl) ?_;refine dm ?_;obtain⟨gw,D,h⟩:=aa h;refine db (aC (t:=aJ) rfl CJ nq D) ?_;refine da (an (t:=aJ) rfl nq rfl) ?_;refine da (au rfl fS) ?_;refine ea 1 (ao rfl nF jr rfl) ?_;refine dm ?_;obtain⟨Y,y,h⟩:=aa h;refine db (aC (t:=aJ) rfl CJ nq y) ?_;refine da (an (t:=aJ) rfl nq rfl) ?_;refine df cU ?_;refine jb (Iu rfl U0 rfl) ?_;refine nt (cn h (λh=>?_) (λh=>?_))
      .refine sr (cq (nt (aA (br (bb (bg ?_))))));obtain rfl:=hR _ h;exact ra
      .refine aZ (aK (tn (ae (mq ?_))));obtain⟨M,x,h⟩:=aa h;refine jb (bi rfl x) ?_;refine aq (nl ?_);exact jz ((),M) h [0,1]
     .refine xa ?_;exact jz ((),()) h []
    .refine sr (cq (nt (aA ?_)));cases h;exact ra
def il(k:Nat)(a0:Int)(a1:(List Int))(self:Int->(List Int)->Option ((List (List Int)))):Nat->((List (List Int))×Int)->Option (List (List Int))
 |0,_=>none
 |n+1,y9=>
  if y9.2 < a0 then((bR (be (length ([]:(List Int))+length a1))).bind λ_=>
  (bR (be (length (([]:(List Int))++a1)+length [y9.2]))).bind λ_=>
  (self a0 ((([]:(List Int))++a1)++[y9.2])).bind λc=>
  (bR (be (length y9.1+length c))).bind λ_=>
  (ck (y9.2+1)).bind λe=>
  il k a0 a1 self n (y9.1++c,e)) else(some y9.1)
def lB(k:Nat):Nat->Int->(List Int)->Option ((List (List Int)))
 |0,_,_=>none
 |m0+1,a0,a1=>
  ((if 0 < (a1.length:Int) then((ck ((a1.length:Int) - 1)).bind λx4=>
  (aH a1 x4).bind λx5=>
  (ck (x5+1)).bind λx6=>
  some x6) else(some 0)):Option (Int)).bind λx2=>
  ((il k a0 a1 (lB k m0) k ([a1],x2)):Option ((List (List Int)))).bind λx7=>
  some x7
theorem C6(k:Nat):
 ∀(n:Nat) (a0:Int) (a1:(List Int)) (r:(List (List Int))),lB k n a0 a1=some r->cP Tryz.prog 34 [I a0,.rep Tl a1] ([]) (λ_:Unit=>(bu [.rep (.slice Tl) r],[])):=by
 intro n
 induction n with
 |zero=>intro a0 a1 r h;cases h
 |succ m0 ih=>
  intro a0 a1 r h;rw [lB] at h;replace h:=aS h;refine cP.of 37 Tryz.func34 rfl Tryz.ntmps34 rfl λS w0=>?_;refine sr (cq (nt (sr ?_)));refine mq ?_;refine aY rfl rfl rfl (iq (t:=Tl) [(.tmp 8,_)] [a1] rfl rfl lX (.cons rfl .rep .nil) rfl rfl) ⟨rfl,trivial⟩ λv1=>?_;refine aq (nt (sr ?_));refine cq (nt ?_);refine aE (Z:=Unit) (α:=Int) (λz3 x2=>[(0,I a0),(1,.rep Tl a1),(5,.eq v1),(6,I x2)]) (λz3 x2=>[.sl v1 28 Tl [a1]]) h (λK h=>?_) (λz3 x2 h=>?_)
  .refine sr (mq ?_);refine ol gG ?_;refine jb (jp rfl) ?_;refine nt (ci h (λh=>?_) (λh=>?_))
   .refine ae ?_;iterate 2 refine mq ?_
    refine ol gG ?_;obtain⟨x4,J,h⟩:=aa h;refine jb (eC rfl J) ?_;obtain⟨x5,F,h⟩:=aa h;refine jb (aC (t:=Ti) rfl gG bW F) ?_;refine ja (an (t:=Ti) rfl bW rfl) ?_;obtain⟨x6,E,h⟩:=aa h;refine jb (bi rfl E) ?_;refine aq (nl ?_);exact jz ((),x6) h [0]
   .refine aZ (ax ?_);exact jz ((),0) h [0]
  .refine aE (Z:=Value) (α:=(List (List Int))) (λz8 x7=>[(5,.eq z8)]) (λz8 x7=>[.sl z8 28 Tl x7]) h (λK h=>?_) (λz8 x7 h=>?_)
   .refine sr (mq ?_);refine aq (nt (ai ?_));refine aD (λc y9=>[(0,I a0),(1,.rep Tl a1),(5,.eq c),(7,I y9.2)]) (λc y9=>[.sl c 28 Tl y9.1]) (il k a0 a1 (lB k m0)) k v1 ([a1],x2) (λ_=>rfl) h (SE.fin [0] ⟨rfl,rfl,rfl,rfl,trivial⟩ rfl) (λn c y9 h=>?_);unfold il at h;refine aj (sr ?_);iterate 2 refine mq ?_
    refine jb (bp rfl) ?_;refine nt (ci h (λh=>?_) (λh=>?_))
    .refine sk (aj (ai (ae ?_)));iterate 2 refine mq ?_
     refine aY rfl rfl rfl (iq (t:=Ti) [] ([]:(List Int)) rfl rfl cY .nil rfl rfl) trivial λQ=>?_;refine mq ?_;obtain⟨Y,u,h⟩:=aa h;refine cQ rfl rfl rfl (bq rfl rfl cY (ap u)) ⟨rfl,rfl,trivial⟩ λO=>?_;refine mq ?_;refine ja (aX (t:=Ti) [(.tmp 31,_)] [y9.2] rfl rfl cY (.cons rfl .int .nil) rfl rfl) ?_;obtain⟨X,s,h⟩:=aa h;refine cQ rfl rfl rfl (bq rfl rfl cY (ap s)) ⟨rfl,rfl,trivial⟩ λM=>?_;refine eE (gB [33] ⟨rfl,trivial⟩) ?_;obtain⟨e,x,h⟩:=aa h;refine jb (av [.tmp 27,.tmp 33] rfl rfl S9 rfl (ih a0 ((([]:(List Int))++a1)++[y9.2]) e x)) ?_;obtain⟨U,l,h⟩:=aa h;refine cQ rfl rfl rfl (bq rfl rfl lX (ap l)) ⟨rfl,rfl,trivial⟩ λD=>?_;refine aq (aG (aK (tn (ae ?_))));refine mq ?_;obtain⟨y,j,h⟩:=aa h;refine jb (bi rfl j) ?_;refine aq (nl ?_);exact jz (D,(y9.1++e,y)) h [0]
    .refine xa ?_;exact jz (c,y9.1) h [0]
   .refine sr (mq ?_);refine aq (nt (aA ?_));refine bC (gB [4,5,36] ⟨rfl,rfl,rfl,trivial⟩) ?_;cases h;exact ra
def nK(k:Nat)(a0:ab)(a1:(List (List Int)))(a2:aR):Option Bool:=
 (aH a1 a2.2.1).bind λx3=>
 (aH x3 a2.1).bind λx4=>
 some (decide (a2.2.2=(decide (a0.2.2.1≤x4))))
theorem yT(k:Nat)(a0:ab)(a1:(List (List Int)))(a2:aR)(r:Bool)(h:nK k a0 a1 a2=some r):
 cP Tryz.prog 102 [.rep am a0,.rep (.slice Tl) a1,.rep aJ a2] [] (λ_:Unit=>(bu [.eq (.bool r)],[])):=by
 unfold nK at h
 replace h:=aS h
 refine cP.of 22 Tryz.func102 rfl Tryz.ntmps102 rfl λS w0=>?_
 refine sr ?_
 refine bx λb1=>?_
 refine bx λb2=>?_
 refine cq ?_
 refine nt ?_
 refine aj ?_
 refine bL ?_
 refine da (au rfl Jn) ?_
 refine ea 0 (ao rfl VU jr rfl) ?_
 refine dm ?_
 refine da (au rfl zy) ?_
 refine ea 0 (ao rfl bW jr rfl) ?_
 obtain⟨x3,e,h⟩:=aa h
 refine db (aC (t:=Tl) rfl oa eR e) ?_
 refine da (an (t:=Tl) rfl eR rfl) ?_
 refine da (au rfl zA) ?_
 refine ea 0 (ao rfl bW jr rfl) ?_
 obtain⟨x4,c,h⟩:=aa h
 refine db (aC (t:=Ti) rfl gG bW c) ?_
 refine da (an (t:=Ti) rfl bW rfl) ?_
 refine da (au rfl rP) ?_
 refine ea 1 (ao rfl bW jr rfl) ?_
 refine db (iQ rfl) ?_
 refine df cU ?_
 refine jb (PV rfl U4) ?_
 refine aq ?_
 refine nt ?_
 refine aA ?_
 cases h
 exact ra
def c9(k:Nat)(a0:ab)(a1:(List Int))(e:(List (List Int))):Nat->(Bool×Int)->Option Bool
 |0,_=>none
 |n+1,c=>
  if c.2 < (a0.2.2.2.2.2.length:Int) then(((if c.1=true then((om k a1 c.2).bind λs=>
  if s=true then(some true) else((aH a0.2.2.2.2.2 c.2).bind λj=>
  (nK k a0 e j).bind λr=>
  some r)) else(some false)):Option (Bool)).bind λl=>
  (ck (c.2+1)).bind λh=>
  c9 k a0 a1 e n (l,h)) else(some c.1)
def dA(k:Nat)(a0:ab)(a1:(List Int))(r2:(List (List Int))):Nat->((List (List Int))×Int)->Option (List (List Int))
 |0,_=>none
 |n+1,y5=>
  if y5.2 < (r2.length:Int) then((((aH r2 y5.2).bind λx9=>
  (pw k a0 x9).bind λj=>
  ((c9 k a0 a1 j k (true,0)):Option (Bool)).bind λh=>
  if h=true then((aH r2 y5.2).bind λc=>
  (bR (be (length y5.1+length [c]))).bind λ_=>
  some (y5.1++[c])) else(some y5.1)):Option ((List (List Int)))).bind λx7=>
  (ck (y5.2+1)).bind λe=>
  dA k a0 a1 r2 n (x7,e)) else(some y5.1)
def gY(k:Nat)(a0:ab)(a1:(List Int)):Option (List (List Int)):=
 (lB k k a0.1 ([]:(List Int))).bind λr2=>
 ((dA k a0 a1 r2 k (([]:(List (List Int))),0)):Option ((List (List Int)))).bind λx3=>
 some x3
theorem nM(k:Nat)(a0:ab)(a1:(List Int))(r:(List (List Int)))(h:gY k a0 a1=some r):
 cP Tryz.prog 70 [.rep am a0,.rep Tl a1] [] (λ_:Unit=>(bu [.rep (.slice Tl) r],[])):=by
 unfold gY at h
 replace h:=aS h
 refine cP.of 58 Tryz.func70 rfl Tryz.ntmps70 rfl λS w0=>?_
 refine sr ?_
 refine bx λb1=>?_
 refine cq ?_
 refine nt ?_
 refine sr ?_
 refine cq ?_
 refine nt ?_
 refine sr ?_
 refine fl fK ?_
 refine lo bW ?_
 obtain⟨r2,Wp,h⟩:=aa h
 have Wq:=C6 k k a0.1 ([]:(List Int)) r2 Wp
 refine jb (bH (N:=[(.tmp 12,I a0.1),(.const (.slice none 0 0),.eq (.slice none 0 0))]) (av [.tmp 12,.const (.slice none 0 0)] rfl rfl S9 rfl Wq) λ_ _ _ hn=>⟨hn.1,(aI (t:=Tl) (x:=([]:(List Int))) .nil rfl rfl hn.2.1),trivial⟩) ?_
 refine aq ?_
 refine nt ?_
 refine aE (Z:=Value) (α:=(List (List Int))) (λz4 x3=>[(5,.eq z4)]) (λz4 x3=>[.sl z4 28 Tl x3]) h (λK h=>?_) (λz4 x3 h=>?_)
 .
  refine sr (cq (nt (ai ?_)));refine iC (SE.nil 28 Tl) ?_;refine aD (λz6 y5=>[(1,.rep Tl a1),(2,Pt b1),(5,.eq z6),(6,.rep (.slice Tl) r2),(7,I y5.2)]) (λz6 y5=>[.obj b1 25 (.rep am a0),.sl z6 28 Tl y5.1]) (dA k a0 a1 r2) k (.slice none 0 0) (([]:(List (List Int))),0) (λ_=>rfl) h (SE.fin [1,0] ⟨rfl,rfl,rfl,rfl,rfl,trivial⟩ rfl) (λn z6 y5 h=>?_);unfold dA at h;refine aj (sr ?_);iterate 2 refine mq ?_
  refine ol oa ?_;refine jb (bp rfl) ?_;refine nt (ci h (λh=>?_) (λh=>?_))
  .refine sk (aE (Z:=Value) (α:=(List (List Int))) (λz8 x7=>[(1,.rep Tl a1),(2,Pt b1),(5,.eq z8),(6,.rep (.slice Tl) r2),(7,I y5.2)]) (λz8 x7=>[.obj b1 25 (.rep am a0),.sl z8 28 Tl x7]) h (λK h=>?_) (λz8 x7 h=>?_))
   .refine ai (aj (bL ?_));refine ea 0 (ao rfl dp (qp) rfl) ?_;refine dm ?_;refine dm ?_;obtain⟨x9,Wn,h⟩:=aa h;refine db (aC (t:=Tl) rfl oa eR Wn) ?_;refine da (an (t:=Tl) rfl eR rfl) ?_;refine df cU ?_;obtain⟨e,Y,h⟩:=aa h;refine jb (av [.tmp 20,.tmp 24] rfl rfl Vo rfl (AI k a0 x9 e Y)) ?_;refine aq ?_;refine cq (nt ?_);refine aE (Z:=Unit) (α:=Bool) (λy l=>[(1,.rep Tl a1),(2,Pt b1),(5,.eq z6),(6,.rep (.slice Tl) r2),(7,I y5.2),(9,.eq (.bool l))]) (λy l=>[.obj b1 25 (.rep am a0),.sl z6 28 Tl y5.1]) h (λK h=>?_) (λy l h=>?_)
    .refine sr (cq (nt (ai ?_)));refine aD (λu c=>[(1,.rep Tl a1),(2,Pt b1),(5,.eq z6),(6,.rep (.slice Tl) r2),(7,I y5.2),(8,.rep (.slice Tl) e),(9,.eq (.bool c.1)),(10,I c.2)]) (λu c=>[.obj b1 25 (.rep am a0),.sl z6 28 Tl y5.1]) (c9 k a0 a1 e) k () (true,0) (λ_=>rfl) h (SE.fin [0,1] ⟨rfl,rfl,rfl,rfl,rfl,rfl,rfl,rfl,trivial⟩ rfl) (λn u c h=>?_);unfold c9 at h;refine aj (sr (mq ?_));refine fl fS ?_;refine lo nF ?_;refine ol CJ ?_;refine jb (bp rfl) ?_;refine nt (ci h (λh=>?_) (λh=>?_))
     .refine sk (aE (Z:=Unit) (α:=Bool) (λs j=>[(1,.rep Tl a1),(2,Pt b1),(5,.eq z6),(6,.rep (.slice Tl) r2),(7,I y5.2),(8,.rep (.slice Tl) e),(9,.eq (.bool j)),(10,I c.2)]) (λs j=>[.obj b1 25 (.rep am a0),.sl z6 28 Tl y5.1]) h (λK h=>?_) (λs j h=>?_))
      .refine ai (bL ?_);refine dm ?_;refine lK rfl rfl rfl (aW rfl) ⟨rfl,trivial⟩ (λhb=>?_) (λhb=>?_)
       .replace h:=eh (K1 hb) h;refine bo rfl rfl rfl rfl rfl (aW rfl) ⟨rfl,rfl,trivial⟩ ?_;refine bo rfl rfl rfl rfl rfl (aW rfl) ⟨rfl,rfl,trivial⟩ ?_;obtain⟨zz,X,h⟩:=aa h;refine bo rfl rfl rfl rfl rfl (av [.tmp 35,.tmp 36] rfl rfl Qg rfl (ri k a1 c.2 zz X)) ⟨rfl,rfl,rfl,trivial⟩ ?_;refine KC rfl rfl rfl rfl rfl (aW rfl) ⟨rfl,rfl,trivial⟩ (λhb=>?_) (λhb=>?_)
        .replace h:=eh (K1 hb) h;iterate 7 refine dg ?_
         refine df cU ?_;refine gn ?_;refine gb (kJ rfl) ?_;refine pt ?_;refine aq (aG (bn ?_));exact jz ((),true) h [0,1]
        .replace h:=cH (K2 hb) h;refine ig 0 rfl rfl rfl rfl rfl rfl (ao rfl dp (qp) rfl) ⟨rfl,rfl,trivial⟩ ?_;refine bo rfl rfl rfl rfl rfl (aW rfl) ⟨rfl,rfl,trivial⟩ ?_;refine bo rfl rfl rfl rfl rfl (au rfl fS) ⟨rfl,rfl,trivial⟩ ?_;refine ig 0 rfl rfl rfl rfl rfl rfl (ao rfl nF jr rfl) ⟨rfl,rfl,trivial⟩ ?_;refine bo rfl rfl rfl rfl rfl (aW rfl) ⟨rfl,rfl,trivial⟩ ?_;obtain⟨mw,O,h⟩:=aa h;refine bo rfl rfl rfl rfl rfl (aC (t:=aJ) rfl CJ nq O) ⟨rfl,rfl,rfl,trivial⟩ ?_;refine bo rfl rfl rfl rfl rfl (an (t:=aJ) rfl nq rfl) ⟨rfl,rfl,trivial⟩ ?_;refine df cU ?_;obtain⟨E,U,h⟩:=aa h;refine gc (av [.tmp 39,.tmp 40,.tmp 45] rfl rfl TD rfl (yT k a0 e mw E U)) ?_;refine gb (pz rfl) ?_;refine pt ?_;refine aq (aG (bn ?_));exact jz ((),E) h [0,1]
       .replace h:=cH (K2 hb) h;iterate 4 refine dg ?_
        refine du ?_;refine du ?_;refine du ?_;refine du ?_;refine du ?_;refine du ?_;refine du ?_;refine df cU ?_;refine gu ?_;refine gn ?_;refine pf ?_;refine aq (aG (bn ?_));exact jz ((),false) h [0,1]
      .refine ae (mq ?_);obtain⟨mc,M,h⟩:=aa h;refine jb (bi rfl M) ?_;refine aq (nl ?_);exact jz ((),(j,mc)) h [0,1]
     .refine xa ?_;exact jz ((),c.1) h [0,1]
    .refine sr (mq (nt ?_));refine cv h (λh=>?_) (λh=>?_)
     .refine ae ?_;iterate 3 refine mq ?_
      obtain⟨D,J,h⟩:=aa h;refine jb (aC (t:=Tl) rfl oa eR J) ?_;refine ja (an (t:=Tl) rfl eR rfl) ?_;refine ja (aX (t:=Tl) [(.tmp 54,_)] [D] rfl rfl lX (.cons rfl .rep .nil) rfl rfl) ?_;obtain⟨Ws,Q,h⟩:=aa h;refine fr 1 ?_;refine cQ rfl rfl rfl (bq rfl rfl lX (ap Q)) ⟨rfl,rfl,trivial⟩ λqt=>?_;refine aq (aG (bn ?_));exact jz (qt,y5.1++[D]) h [1,0]
     .refine aZ (bn ?_);exact jz (z6,y5.1) h [0,1]
   .refine ae (mq ?_);obtain⟨gw,F,h⟩:=aa h;refine jb (bi rfl F) ?_;refine aq (nl ?_);exact jz (z8,(x7,gw)) h [0,1]
  .refine xa ?_;exact jz (z6,y5.1) h [1]
 .
  refine sr (mq ?_);refine aq (nt (aA ?_));refine bC (gB [4,5,57] ⟨rfl,rfl,rfl,trivial⟩) ?_;cases h;exact ra
def l9(k:Nat)(a0:ab)(a1:Bool):Option ((List (List Int))×Int):=
 (lN k a0).bind λr2=>
 if¬(r2=0) then(some (([]:(List (List Int))),r2)) else(if¬(a1=true) then(some (([]:(List (List Int))),3)) else((gY k a0 ([]:(List Int))).bind λr3=>
 if(r3.length:Int)=0 then(some (([]:(List (List Int))),9)) else(some (r3,0))))
theorem wZ(k:Nat)(a0:ab)(a1:Bool)(r:(List (List Int))×Int)(h:l9 k a0 a1=some r):
 cP Tryz.prog 63 [.rep am a0,.eq (.bool a1)] [] (λ_:Unit=>(bu [.rep (.slice Tl) r.1,I r.2],[])):=by
 unfold l9 at h
 replace h:=aS h
 refine cP.of 21 Tryz.func63 rfl Tryz.ntmps63 rfl λS w0=>?_
 refine sr ?_
 refine bx λb1=>?_
 refine cq ?_
 refine cq ?_
 refine nt ?_
 refine aj ?_
 refine sr ?_
 refine lo dp ?_
 obtain⟨r2,e,h⟩:=aa h
 have j:=sw k a0 r2 e
 refine ja (av [.tmp 8] rfl rfl Td rfl j) ?_
 refine aq ?_
 refine nt ?_
 refine sr ?_
 refine mq ?_
 refine jb (dV rfl) ?_
 refine nt ?_
 refine cn h (λh=>?_) (λh=>?_)
 .
  refine sr (mq ?_);refine cq ?_;refine aq (nt (rx ?_));refine bC (dL (t:=(.slice Tl)) (x:=([]:(List (List Int)))) 4 rfl .nil rfl rfl) ?_;cases h;exact rb
 .
  refine sk (aj (sr (mq ?_)));refine ja (eS rfl) ?_;refine nt (cw h (λh=>?_) (λh=>?_))
  .refine sr (cq ?_);refine cq (nt (rx ?_));refine bC (dL (t:=(.slice Tl)) (x:=([]:(List (List Int)))) 4 rfl .nil rfl rfl) ?_;cases h;exact rb
  .refine sk (sr (lo dp ?_));obtain⟨r3,c,h⟩:=aa h;refine jb (bH (N:=[(.tmp 15,.rep am a0),(.const (.slice none 0 0),.eq (.slice none 0 0))]) (av [.tmp 15,.const (.slice none 0 0)] rfl rfl SX rfl (nM k a0 ([]:(List Int)) r3 c)) λ_ _ _ hn=>⟨hn.1,(aI (t:=Tl) (x:=([]:(List Int))) .nil rfl rfl hn.2.1),trivial⟩) ?_;refine aq (nt (aj (sr ?_)));refine mq ?_;refine ol oa ?_;refine jb (jG rfl) ?_;refine nt (ci h (λh=>?_) (λh=>?_))
   .refine sr (cq ?_);refine cq (nt (rx ?_));refine bC (dL (t:=(.slice Tl)) (x:=([]:(List (List Int)))) 4 rfl .nil rfl rfl) ?_;cases h;exact rb
   .refine sk (sr (mq ?_));refine aq ?_;refine cq (nt (aA ?_));cases h;exact rb
def me(k:Nat)(a0:ab):Option ((List (List Int))×Int):=
 (lN k a0).bind λr2=>
 if¬(r2=0) then(some (([]:(List (List Int))),r2)) else((gY k a0 ([]:(List Int))).bind λr3=>
 some (r3,0))
theorem xc(k:Nat)(a0:ab)(r:(List (List Int))×Int)(h:me k a0=some r):
 cP Tryz.prog 30 [.rep am a0] [] (λ_:Unit=>(bu [.rep (.slice Tl) r.1,I r.2],[])):=by
 unfold me at h
 replace h:=aS h
 refine cP.of 12 Tryz.func30 rfl Tryz.ntmps30 rfl λS w0=>?_
 refine sr ?_
 refine bx λb1=>?_
 refine cq ?_
 refine cq ?_
 refine nt ?_
 refine aj ?_
 refine sr ?_
 refine lo dp ?_
 obtain⟨r2,e,h⟩:=aa h
 have j:=sw k a0 r2 e
 refine ja (av [.tmp 5] rfl rfl Td rfl j) ?_
 refine aq ?_
 refine nt ?_
 refine sr ?_
 refine mq ?_
 refine jb (dV rfl) ?_
 refine nt ?_
 refine cn h (λh=>?_) (λh=>?_)
 .
  refine sr (mq ?_);refine cq ?_;refine aq (nt (rx ?_));refine bC (dL (t:=(.slice Tl)) (x:=([]:(List (List Int)))) 2 rfl .nil rfl rfl) ?_;cases h;exact rb
 .
  refine sk (sr (lo dp ?_));obtain⟨r3,c,h⟩:=aa h;refine jb (bH (N:=[(.tmp 10,.rep am a0),(.const (.slice none 0 0),.eq (.slice none 0 0))]) (av [.tmp 10,.const (.slice none 0 0)] rfl rfl SX rfl (nM k a0 ([]:(List Int)) r3 c)) λ_ _ _ hn=>⟨hn.1,(aI (t:=Tl) (x:=([]:(List Int))) .nil rfl rfl hn.2.1),trivial⟩) ?_;refine aq ?_;refine cq (nt (aA ?_));cases h;exact rb
def eL(k:Nat)(r2:(List (List Int))×Int):Nat->((List Int)×Int)->Option (List Int)
 |0,_=>none
 |n+1,y6=>
  if y6.2 < (r2.1.length:Int) then((((aH r2.1 y6.2).bind λh=>
  if(h.length:Int) < (y6.1.length:Int) then((aH r2.1 y6.2).bind λe=>
  some e) else(some y6.1)):Option ((List Int))).bind λx8=>
  (ck (y6.2+1)).bind λc=>
  eL k r2 n (x8,c)) else(some y6.1)
def ma(k:Nat)(a0:ab):Option ((List Int)×Int):=
 (l9 k a0 true).bind λr2=>
 if¬(r2.2=0) then(some (([]:(List Int)),r2.2)) else((aH r2.1 0).bind λx3=>
 ((eL k r2 k (x3,0)):Option ((List Int))).bind λx4=>
 some (x4,0))
theorem xb(k:Nat)(a0:ab)(r:(List Int)×Int)(h:ma k a0=some r):
 cP Tryz.prog 32 [.rep am a0] [] (λ_:Unit=>(bu [.rep Tl r.1,I r.2],[])):=by
 unfold ma at h
 replace h:=aS h
 refine cP.of 38 Tryz.func32 rfl Tryz.ntmps32 rfl λS w0=>?_
 refine sr ?_
 refine bx λb1=>?_
 refine cq ?_
 refine cq ?_
 refine nt ?_
 refine sr ?_
 refine lo dp ?_
 obtain⟨r2,y,h⟩:=aa h
 have D:=wZ k a0 true r2 y
 refine jb (av [.tmp 9,.const (.bool true)] rfl rfl Vi rfl D) ?_
 refine mq ?_
 refine xr ?_
 refine xr ?_
 refine aq ?_
 refine aq ?_
 refine nt ?_
 refine aj ?_
 refine sr ?_
 refine mq ?_
 refine jb (dV rfl) ?_
 refine nt ?_
 refine cn h (λh=>?_) (λh=>?_)
 .
  refine sr (mq ?_);refine cq ?_;refine aq (nt (rx ?_));refine bC (dL (t:=Tl) (x:=([]:(List Int))) 2 rfl .nil rfl rfl) ?_;cases h;exact rb
 .
  refine sk (sr (mq ?_));obtain⟨x3,u,h⟩:=aa h;refine jb (aC (t:=Tl) rfl oa eR u) ?_;refine ja (an (t:=Tl) rfl eR rfl) ?_;refine aq (nt ?_);refine aE (Z:=Unit) (α:=(List Int)) (λz5 x4=>[(6,.rep Tl x4)]) (λz5 x4=>[]) h (λK h=>?_) (λz5 x4 h=>?_)
  .refine sr (cq (nt (ai ?_)));refine aD (λz7 y6=>[(4,.rep (.slice Tl) r2.1),(6,.rep Tl y6.1),(7,I y6.2)]) (λz7 y6=>[]) (eL k r2) k () (x3,0) (λ_=>rfl) h (SE.fin [] ⟨rfl,rfl,rfl,trivial⟩ rfl) (λn z7 y6 h=>?_);unfold eL at h;refine aj (sr ?_);iterate 2 refine mq ?_
   refine ol oa ?_;refine jb (bp rfl) ?_;refine nt (ci h (λh=>?_) (λh=>?_))
   .refine sk (aE (Z:=Unit) (α:=(List Int)) (λz9 x8=>[(4,.rep (.slice Tl) r2.1),(6,.rep Tl x8),(7,I y6.2)]) (λz9 x8=>[]) h (λK h=>?_) (λz9 x8 h=>?_))
    .refine ai (sr ?_);iterate 2 refine mq ?_
     obtain⟨E,j,h⟩:=aa h;refine jb (aC (t:=Tl) rfl oa eR j) ?_;refine ja (an (t:=Tl) rfl eR rfl) ?_;refine ol gG ?_;refine mq ?_;refine ol gG ?_;refine jb (bp rfl) ?_;refine nt (ci h (λh=>?_) (λh=>?_))
     .refine ae ?_;iterate 2 refine mq ?_
      obtain⟨s,e,h⟩:=aa h;refine jb (aC (t:=Tl) rfl oa eR e) ?_;refine ja (an (t:=Tl) rfl eR rfl) ?_;refine aq (aG (bn ?_));exact jz ((),s) h []
     .refine aZ (bn ?_);exact jz ((),y6.1) h []
    .refine ae (mq ?_);obtain⟨l,c,h⟩:=aa h;refine jb (bi rfl c) ?_;refine aq (nl ?_);exact jz ((),(x8,l)) h []
   .refine xa ?_;exact jz ((),y6.1) h []
  .refine sr (mq ?_);refine aq ?_;refine cq (nt (aA ?_));cases h;exact rb
