import Derived.Test.YtcpbmhgakdeceaaGreatVRFacts
import Derived.Test.YtcpbmhgakdeceaaGreatVRB6
open Nat
open List hiding mem_of_getElem?
open Array hiding mem_of_getElem? mk
set_option linter.unusedSimpArgs false
set_option linter.unusedVariables false
set_option maxRecDepth 4000
set_option maxHeartbeats 4000000
namespace Go.Proofs.YtcpbmhgakdeceaaGreat
open K Go Go.Proofs
def iJ(k:Nat)(a0:ab)(y4:Int):Nat->Int->Option (Except Bool Unit)
 |0,_=>none
 |n+1,c=>
  (aK a0.2.2.2.2.1 y4).bind λl=>
  if c < (l.length:Int) then((aK a0.2.2.2.2.1 y4).bind λj=>
  (aK j c).bind λh=>
  if 20 < (h.length:Int) then(some (.error true)) else((ck (c+1)).bind λe=>
  iJ k a0 y4 n e)) else(some (.ok ()))
def iK(k:Nat)(a0:ab):Nat->Int->Option (Except Bool Unit)
 |0,_=>none
 |n+1,y4=>
  ((if y4 < (a0.2.2.2.2.1.length:Int) then(some (decide (y4 < 20))) else(some false)):Option (Bool)).bind λx6=>
  if x6=true then(bE (α:=Unit) ((aK a0.2.2.2.2.1 y4).bind λh=>
  if 20 < (h.length:Int) then(some (.error true)) else(iJ k a0 y4 k 0)) (λe=>some (.error e)) λ_=>
  (ck (y4+1)).bind λc=>
  iK k a0 n c) else(some (.ok ()))
def qx(k:Nat)(a0:ab):Option Bool:=
 bE (α:=Unit) (iK k a0 k 0) (some) λ_=>
 ((if 20 < (a0.2.2.2.2.1.length:Int) then(some true) else(some (decide (20 < (a0.2.2.2.2.2.length:Int))))):Option (Bool)).bind λc=>
 some c
theorem CE(k:Nat)(a0:ab)(r:Bool)(h:qx k a0=some r):
 cT Tryz.prog 4 [.rep ah a0] [] (λ_:Unit=>(bn [.eq (.bool r)],[])):=by
 unfold qx at h
 replace h:=aY h
 refine cT.of 53 Tryz.func4 rfl Tryz.ntmps4 rfl λS w0=>?_
 refine sr ?_
 refine bx λb1=>?_
 refine cq ?_
 refine nt ?_
 refine cF (Z:=Unit) (α:=Unit) (λz3 x2=>[(1,Pt b1)]) (λz3 x2=>[.obj b1 25 (.rep ah a0)]) (λe=>e=r) h (λe h=>Option.some.inj h) (λK hR h=>?_) (λz3 x2 h=>?_)
 .
  refine au ?_;refine ai (aF (λz5 y4=>[(1,Pt b1),(3,I y4)]) (λz5 y4=>[.obj b1 25 (.rep ah a0)]) (iK k a0) k () 0 (λ_=>rfl) h (SE.fin [0] ⟨rfl,rfl,trivial⟩ rfl) (λn z5 y4 h=>?_));unfold iK at h;refine bC (aJ (Z:=Unit) (α:=Bool) (λz7 x6=>[(1,Pt b1),(3,I y4),(13,.eq (.bool x6))]) (λz7 x6=>[.obj b1 25 (.rep ah a0)]) h (λK h=>?_) (λz7 x6 h=>?_))
  .refine ae (mq ?_);refine fl co ?_;refine lo fp ?_;refine ol pJ ?_;refine jb (bj rfl) ?_;refine mq ?_;refine bV (s:=10) rfl (λhb=>?_) (λhb=>?_)
   .replace h:=dY (vz hb) h;refine gm ?_;refine gb (bj rfl) ?_;refine au ?_;exact jz ((),decide (y4 < 20)) h [0]
   .replace h:=cz (vA hb) h;refine au ?_;exact jz ((),false) h [0]
  .refine cv h (λh=>?_) (λh=>?_)
   .refine sk (cF (Z:=Unit) (α:=Unit) (λz9 x8=>[(1,Pt b1),(3,I y4)]) (λz9 x8=>[.obj b1 25 (.rep ah a0)]) (λe=>e=r) h (λe h=>hR e h) (λK hR h=>?_) (λz9 x8 h=>?_))
    .refine ai (au ?_);refine fl co ?_;refine lo fp ?_;refine mq ?_;obtain⟨Y,J,h⟩:=aa h;refine jb (aG (t:=(.slice Tl)) rfl pJ kT J) ?_;refine ja (ao (t:=(.slice Tl)) rfl kT rfl) ?_;refine ol nR ?_;refine jb (iq rfl) ?_;refine nt (ci h (λh=>?_) (λh=>?_))
     .refine au ?_;obtain rfl:=hR _ h;exact ra
     .refine au ?_;refine ai (aF (λu c=>[(1,Pt b1),(3,I y4),(4,I c)]) (λu c=>[.obj b1 25 (.rep ah a0)]) (iJ k a0 y4) k () 0 (λ_=>rfl) h (SE.fin [0] ⟨rfl,rfl,rfl,trivial⟩ rfl) (λn u c h=>?_));unfold iJ at h;refine au ?_;refine fl co ?_;refine lo fp ?_;refine mq ?_;obtain⟨X,F,h⟩:=aa h;refine jb (aG (t:=(.slice Tl)) rfl pJ kT F) ?_;refine ja (ao (t:=(.slice Tl)) rfl kT rfl) ?_;refine ol nR ?_;refine jb (bj rfl) ?_;refine nt (ci h (λh=>?_) (λh=>?_))
      .refine au ?_;refine ai (sr (fl co ?_));refine lo fp ?_;refine mq ?_;obtain⟨U,E,h⟩:=aa h;refine jb (aG (t:=(.slice Tl)) rfl pJ kT E) ?_;refine ja (ao (t:=(.slice Tl)) rfl kT rfl) ?_;refine mq ?_;obtain⟨Q,D,h⟩:=aa h;refine jb (aG (t:=Tl) rfl nR eB D) ?_;refine ja (ao (t:=Tl) rfl eB rfl) ?_;refine ol gX ?_;refine jb (iq rfl) ?_;refine nt (ci h (λh=>?_) (λh=>?_))
       .refine au ?_;obtain rfl:=hR _ h;exact ra
       .refine au ?_;refine ae (mq ?_);obtain⟨O,y,h⟩:=aa h;refine jb (be rfl y) ?_;refine au ?_;exact jz ((),O) h [0]
      .refine au ?_;exact jz ((),()) h [0]
    .refine ae (mq ?_);obtain⟨M,x,h⟩:=aa h;refine jb (be rfl x) ?_;refine au ?_;exact jz ((),M) h [0]
   .refine au ?_;exact jz ((),()) h [0]
 .
  refine aJ (Z:=Unit) (α:=Bool) (λl j=>[(2,.eq (.bool j))]) (λl j=>[]) h (λK h=>?_) (λl j h=>?_)
  .refine ae (fl co ?_);refine lo fp ?_;refine ol pJ ?_;refine jb (iq rfl) ?_;refine mq ?_;refine bV (s:=47) rfl (λhb=>?_) (λhb=>?_)
   .replace h:=dY (vz hb) h;refine au ?_;exact jz ((),true) h []
   .replace h:=cz (vA hb) h;refine ga (av rfl dA) ?_;refine eI rfl rfl rfl rfl rfl rfl (ak rfl jw iV rfl) ⟨rfl,trivial⟩ ?_;refine ga (lI rfl rfl vh) ?_;refine gb (iq rfl) ?_;refine au ?_;exact jz ((),decide (20 < (a0.2.2.2.2.2.length:Int))) h []
  .refine cC ?_;cases h;exact ra
def dW(k:Nat)(a0:(List Int))(a1:(List Int)):Nat->Int->Option (Except Bool Unit)
 |0,_=>none
 |n+1,y3=>
  if y3 < (a0.length:Int) then((aK a0 y3).bind λx5=>
  (aK a1 y3).bind λx6=>
  if¬(x5=x6) then(some (.error false)) else((ck (y3+1)).bind λx7=>
  dW k a0 a1 n x7)) else(some (.ok ()))
def fK(k:Nat)(a0:(List Int))(a1:(List Int)):Option Bool:=
 if¬((a0.length:Int)=(a1.length:Int)) then(some false) else(bE (α:=Unit) (dW k a0 a1 k 0) (some) λ_=>
 some true)
theorem ju(k:Nat)(a0:(List Int))(a1:(List Int))(r:Bool)(h:fK k a0 a1=some r):
 cT Tryz.prog 14 [.rep Tl a0,.rep Tl a1] [] (λ_:Unit=>(bn [.eq (.bool r)],[])):=by
 unfold fK at h
 replace h:=aY h
 refine cT.of 26 Tryz.func14 rfl Tryz.ntmps14 rfl λS w0=>?_
 refine au ?_
 refine ol gX ?_
 refine mq ?_
 refine ol gX ?_
 refine jb (dG rfl) ?_
 refine nt ?_
 refine cn h (λh=>?_) (λh=>?_)
 .
  refine au ?_;cases h;exact ra
 .
  refine sk (cF (Z:=Unit) (α:=Unit) (λz2 x1=>[]) (λz2 x1=>[]) (λe=>e=r) h (λe h=>Option.some.inj h) (λK hR h=>?_) (λz2 x1 h=>?_))
  .refine au ?_;refine ai (aF (λz4 y3=>[(0,.rep Tl a0),(1,.rep Tl a1),(5,I y3)]) (λz4 y3=>[]) (dW k a0 a1) k () 0 (λ_=>rfl) h (SE.fin [] ⟨rfl,rfl,rfl,trivial⟩ rfl) (λn z4 y3 h=>?_));unfold dW at h;refine au ?_;refine ol gX ?_;refine jb (bj rfl) ?_;refine nt (ci h (λh=>?_) (λh=>?_))
   .refine au ?_;refine ai (bC (bD ?_));refine dm ?_;refine dm ?_;obtain⟨x5,l,h⟩:=aa h;refine db (aG (t:=Ti) rfl gX bP l) ?_;refine da (ao (t:=Ti) rfl bP rfl) ?_;refine dm ?_;refine dm ?_;obtain⟨x6,j,h⟩:=aa h;refine db (aG (t:=Ti) rfl gX bP j) ?_;refine da (ao (t:=Ti) rfl bP rfl) ?_;refine df cy ?_;refine jb (dG rfl) ?_;refine nt (cn h (λh=>?_) (λh=>?_))
    .refine au ?_;obtain rfl:=hR _ h;exact ra
    .refine au ?_;refine ae (mq ?_);obtain⟨x7,c,h⟩:=aa h;refine jb (be rfl c) ?_;refine au ?_;exact jz ((),x7) h []
   .refine au ?_;exact jz ((),()) h []
  .refine au ?_;cases h;exact ra
def fC(k:Nat)(a0:Int)(a1:Int):Option Int:=
 (bO (0≤a1)).bind λ_=>
 some (FV .u8 a0 (qA .u8 1 a1))
theorem jo(k:Nat)(a0:Int)(a1:Int)(r:Int)(h:fC k a0 a1=some r):
 cT Tryz.prog 30 [.eq (.int .u8 a0),I a1] [] (λ_:Unit=>(bn [.eq (.int .u8 r)],[])):=by
 unfold fC at h
 replace h:=aY h
 refine cT.of 9 Tryz.func30 rfl Tryz.ntmps30 rfl λS w0=>?_
 refine au ?_
 obtain⟨u1,c,h⟩:=aa h
 refine jb (Qe rfl (ap c)) ?_
 refine jb (Wg rfl) ?_
 refine au ?_
 cases h
 exact ra
def ec(k:Nat)(a0:Int)(a1:Int)(a2:Int):Option Bool:=
 ((if a1≤a0 then(some (decide (a0≤a2))) else(some false)):Option (Bool)).bind λx1=>
 some x1
theorem er(k:Nat)(a0:Int)(a1:Int)(a2:Int)(r:Bool)(h:ec k a0 a1 a2=some r):
 cT Tryz.prog 62 [I a0,I a1,I a2] [] (λ_:Unit=>(bn [.eq (.bool r)],[])):=by
 unfold ec at h
 replace h:=aY h
 refine cT.of 15 Tryz.func62 rfl Tryz.ntmps62 rfl λS w0=>?_
 refine sr ?_
 refine cq ?_
 refine nt ?_
 refine aJ (Z:=Unit) (α:=Bool) (λz2 x1=>[(6,.eq (.bool x1))]) (λz2 x1=>[]) h (λK h=>?_) (λz2 x1 h=>?_)
 .
  refine ae (au ?_);refine jb (yJ rfl) ?_;refine mq ?_;refine bV (s:=10) rfl (λhb=>?_) (λhb=>?_)
  .replace h:=dY (vz hb) h;refine au ?_;refine gb (yJ rfl) ?_;refine au ?_;exact jz ((),decide (a0≤a2)) h []
  .replace h:=cz (vA hb) h;refine au ?_;exact jz ((),false) h []
 .
  refine cC ?_;cases h;exact ra
def fo(k:Nat)(a0:ab)(a1:aC):Option Int:=
 (((ck (a0.1 - 1)).bind λx5=>
 (ec k a1.1 0 x5).bind λr6=>
 if¬(r6=true) then(some true) else((ec k a1.2.1 0 (a0.2.2.2.2.1.length:Int)).bind λr7=>
 some (!r7))):Option (Bool)).bind λx3=>
 if x3=true then(some 3) else(some 0)
theorem mT(k:Nat)(a0:ab)(a1:aC)(r:Int)(h:fo k a0 a1=some r):
 cT Tryz.prog 35 [.rep ah a0,.rep aA a1] [] (λ_:Unit=>(bn [I r],[])):=by
 unfold fo at h
 replace h:=aY h
 refine cT.of 21 Tryz.func35 rfl Tryz.ntmps35 rfl λS w0=>?_
 refine sr ?_
 refine bx λb1=>?_
 refine bx λb2=>?_
 refine cq ?_
 refine nt ?_
 refine bC ?_
 refine aJ (Z:=Unit) (α:=Bool) (λz4 x3=>[(20,.eq (.bool x3))]) (λz4 x3=>[]) h (λK h=>?_) (λz4 x3 h=>?_)
 .
  refine ae (fl Ao ?_);refine lo bP ?_;refine fl ff ?_;refine fr 1 ?_;refine lo bP ?_;obtain⟨x5,c,h⟩:=aa h;refine jb (eC rfl c) ?_;obtain⟨r6,j,h⟩:=aa h;refine jc (ax [.tmp 6,.const (.int .i64 (0)),.tmp 9] rfl rfl As rfl (er k a1.1 0 x5 r6 j)) ?_;refine ja (eQ rfl) ?_;refine mq ?_;refine bV (s:=12) rfl (λhb=>?_) (λhb=>?_)
  .replace h:=dY (ti hb) h;refine au ?_;exact jz ((),true) h []
  .replace h:=cz (nC hb) h;refine ga (av rfl An) ?_;refine fr 1 ?_;refine eI rfl rfl rfl rfl rfl rfl (ak rfl bP iV rfl) ⟨rfl,trivial⟩ ?_;refine ga (av rfl co) ?_;refine fr 1 ?_;refine eI rfl rfl rfl rfl rfl rfl (ak rfl fp iV rfl) ⟨rfl,trivial⟩ ?_;refine ga (lI rfl rfl pJ) ?_;obtain⟨r7,e,h⟩:=aa h;refine gc (ax [.tmp 14,.const (.int .i64 (0)),.tmp 17] rfl rfl As rfl (er k a1.2.1 0 (a0.2.2.2.2.1.length:Int) r7 e)) ?_;refine ga (eQ rfl) ?_;refine au ?_;exact jz ((), !r7) h []
 .
  refine cv h (λh=>?_) (λh=>?_)
  .refine au ?_;cases h;exact ra
  .refine au ?_;cases h;exact ra
def fD(k:Nat)(a0:Int)(a1:Int):Option Bool:=
 (bO (0≤a1)).bind λ_=>
 some (decide ((sJ .u8 (ji .u8 a0 a1) 1)=1))
theorem iH(k:Nat)(a0:Int)(a1:Int)(r:Bool)(h:fD k a0 a1=some r):
 cT Tryz.prog 79 [.eq (.int .u8 a0),I a1] [] (λ_:Unit=>(bn [.eq (.bool r)],[])):=by
 unfold fD at h
 replace h:=aY h
 refine cT.of 10 Tryz.func79 rfl Tryz.ntmps79 rfl λS w0=>?_
 refine au ?_
 obtain⟨u1,c,h⟩:=aa h
 refine jb (wG rfl (ap c)) ?_
 refine jb (Um rfl) ?_
 refine jb (iG rfl) ?_
 refine au ?_
 cases h
 exact ra
def dq(k:Nat)(a0:ab)(x8:(List Int)):Nat->(Int×Int)->Option (Except Int Int)
 |0,_=>none
 |n+1,y9=>
  if y9.2 < (x8.length:Int) then((aK x8 y9.2).bind λc=>
  (ck (a0.1 - 1)).bind λh=>
  (ec k c 0 h).bind λr=>
  if¬(r=true) then(some (.error 3)) else((fD k y9.1 c).bind λl=>
  if l=true then(some (.error 4)) else((fC k y9.1 c).bind λj=>
  (ck (y9.2+1)).bind λe=>
  dq k a0 x8 n (j,e)))) else(some (.ok y9.1))
def dr(k:Nat)(a0:ab)(a1:(List (List Int))):Nat->(Int×Int)->Option (Except Int Unit)
 |0,_=>none
 |n+1,y4=>
  if y4.2 < (a1.length:Int) then(bE (α:=Int) ((aK a1 y4.2).bind λx8=>
  dq k a0 x8 k (y4.1,0)) (λe=>some (.error e)) λx6=>
  (ck (y4.2+1)).bind λc=>
  dr k a0 a1 n (x6,c)) else(some (.ok ()))
def jW(k:Nat)(a0:ab)(a1:(List (List Int))):Option Int:=
 if 3 < (a1.length:Int) then(some 6) else(bE (α:=Unit) (dr k a0 a1 k (0,0)) (some) λ_=>
 some 0)
theorem vq(k:Nat)(a0:ab)(a1:(List (List Int)))(r:Int)(h:jW k a0 a1=some r):
 cT Tryz.prog 89 [.rep ah a0,.rep (.slice Tl) a1] [] (λ_:Unit=>(bn [I r],[])):=by
 unfold jW at h
 replace h:=aY h
 refine cT.of 39 Tryz.func89 rfl Tryz.ntmps89 rfl λS w0=>?_
 refine sr ?_
 refine bx λb1=>?_
 refine au ?_
 refine ol nR ?_
 refine jb (iq rfl) ?_
 refine nt ?_
 refine ci h (λh=>?_) (λh=>?_)
 .
  refine au ?_;cases h;exact ra
 .
  refine sk (sr (cq (nt ?_)));refine cF (Z:=Unit) (α:=Unit) (λz3 x2=>[]) (λz3 x2=>[]) (λe=>e=r) h (λe h=>Option.some.inj h) (λK hR h=>?_) (λz3 x2 h=>?_)
  .refine au ?_;refine ol nR ?_;refine fM rfl ?_;refine nt (ai (aF (λz5 y4=>[(2,Pt b1),(5,.eq (.int .u8 y4.1)),(13,.rep (.slice Tl) a1),(14,I (a1.length:Int)),(15,I y4.2)]) (λz5 y4=>[.obj b1 25 (.rep ah a0)]) (dr k a0 a1) k () (0,0) (λ_=>rfl) h (SE.fin [0] ⟨rfl,rfl,rfl,rfl,rfl,trivial⟩ rfl) (λn z5 y4 h=>?_)));unfold dr at h;refine sr (jb (bj rfl) ?_);refine au ?_;refine ci h (λh=>?_) (λh=>?_)
   .refine sk (cF (Z:=Unit) (α:=Int) (λz7 x6=>[(2,Pt b1),(5,.eq (.int .u8 x6)),(13,.rep (.slice Tl) a1),(14,I (a1.length:Int)),(15,I y4.2)]) (λz7 x6=>[.obj b1 25 (.rep ah a0)]) (λe=>e=r) h (λe h=>hR e h) (λK hR h=>?_) (λz7 x6 h=>?_))
    .refine ai (sr ?_);obtain⟨x8,X,h⟩:=aa h;refine jb (aG (t:=Tl) rfl nR eB X) ?_;refine ja (ao (t:=Tl) rfl eB rfl) ?_;refine au ?_;refine ol gX ?_;refine fM rfl ?_;refine nt (ai (aF (λj y9=>[(2,Pt b1),(5,.eq (.int .u8 y9.1)),(13,.rep (.slice Tl) a1),(14,I (a1.length:Int)),(15,I y4.2),(19,.rep Tl x8),(20,I (x8.length:Int)),(21,I y9.2)]) (λj y9=>[.obj b1 25 (.rep ah a0)]) (dq k a0 x8) k () (y4.1,0) (λ_=>rfl) h (SE.fin [0] ⟨rfl,rfl,rfl,rfl,rfl,rfl,rfl,rfl,trivial⟩ rfl) (λn j y9 h=>?_)));unfold dq at h;refine sr (jb (bj rfl) ?_);refine au ?_;refine ci h (λh=>?_) (λh=>?_)
     .refine au ?_;refine ai (sr ?_);obtain⟨c,y,h⟩:=aa h;refine jb (aG (t:=Ti) rfl gX bP y) ?_;refine ja (ao (t:=Ti) rfl bP rfl) ?_;refine au ?_;refine fl ff ?_;refine lo bP ?_;obtain⟨O,x,h⟩:=aa h;refine jb (eC rfl x) ?_;obtain⟨U,F,h⟩:=aa h;refine jc (ax [.tmp 25,.const (.int .i64 (0)),.tmp 28] rfl rfl As rfl (er k c 0 O U F)) ?_;refine ja (eQ rfl) ?_;refine nt (cw h (λh=>?_) (λh=>?_))
      .refine au ?_;obtain rfl:=hR _ h;exact ra
      .refine au ?_;obtain⟨Q,E,h⟩:=aa h;refine jb (ax [.tmp 31,.tmp 32] rfl rfl KQ rfl (iH k y9.1 c Q E)) ?_;refine nt (cv h (λh=>?_) (λh=>?_))
       .refine au ?_;obtain rfl:=hR _ h;exact ra
       .refine sk (ae (au ?_));obtain⟨l,D,h⟩:=aa h;refine jb (ax [.tmp 34,.tmp 35] rfl rfl OH rfl (jo k y9.1 c l D)) ?_;refine au ?_;refine ae ?_;obtain⟨M,u,h⟩:=aa h;refine jb (be rfl u) ?_;refine au ?_;exact jz ((),(l,M)) h [0]
     .refine au ?_;exact jz ((),y9.1) h [0]
    .refine ae ?_;obtain⟨J,s,h⟩:=aa h;refine jb (be rfl s) ?_;refine au ?_;exact jz ((),(x6,J)) h [0]
   .refine au ?_;exact jz ((),()) h []
  .refine au ?_;cases h;exact ra
def fJ(k:Nat)(a0:ab):Nat->Int->Option (Except Int Unit)
 |0,_=>none
 |n+1,c=>
  if c < (a0.2.2.2.2.1.length:Int) then((aK a0.2.2.2.2.1 c).bind λj=>
  (jW k a0 j).bind λe=>
  if¬(e=0) then(some (.error e)) else((ck (c+1)).bind λh=>
  fJ k a0 n h)) else(some (.ok ()))
def fH(k:Nat)(a0:ab):Nat->Int->Option (Except Int Unit)
 |0,_=>none
 |n+1,c=>
  if c < (a0.2.2.2.2.2.length:Int) then((aK a0.2.2.2.2.2 c).bind λj=>
  (fo k a0 j).bind λe=>
  if¬(e=0) then(some (.error e)) else((ck (c+1)).bind λh=>
  fH k a0 n h)) else(some (.ok ()))
def oD(k:Nat)(a0:ab):Option Int:=
 (((ec k a0.1 1 5).bind λr4=>
 if¬(r4=true) then(some true) else((ec k a0.2.1 0 3).bind λr5=>
 if¬(r5=true) then(some true) else((ec k a0.2.2.1 0 3).bind λr6=>
 if¬(r6=true) then(some true) else((ec k a0.2.2.2.1 1 3).bind λr7=>
 some (!r7))))):Option (Bool)).bind λx2=>
 if x2=true then(some 1) else(if(a0.2.2.2.2.1.length:Int) < 1 then(some 7) else(if 6 < (a0.2.2.2.2.1.length:Int) then(some 6) else(bE (α:=Unit) (fJ k a0 k 0) (some) λ_=>
 if 8 < (a0.2.2.2.2.2.length:Int) then(some 6) else(bE (α:=Unit) (fH k a0 k 0) (some) λ_=>
 some 0))))
theorem Ab(k:Nat)(a0:ab)(r:Int)(h:oD k a0=some r):
 cT Tryz.prog 61 [.rep ah a0] [] (λ_:Unit=>(bn [I r],[])):=by
 unfold oD at h
 replace h:=aY h
 refine cT.of 73 Tryz.func61 rfl Tryz.ntmps61 rfl λS w0=>?_
 refine sr ?_
 refine bx λb1=>?_
 refine cq ?_
 refine nt ?_
 refine bC ?_
 refine aJ (Z:=Unit) (α:=Bool) (λz3 x2=>[(1,Pt b1),(31,.eq (.bool x2))]) (λz3 x2=>[.obj b1 25 (.rep ah a0)]) h (λK h=>?_) (λz3 x2 h=>?_)
 .
  refine ae (fl ff ?_);refine lo bP ?_;obtain⟨r4,qt,h⟩:=aa h;refine jc (ax [.tmp 11,.const (.int .i64 (1)),.const (.int .i64 (5))] rfl rfl As rfl (er k a0.1 1 5 r4 qt)) ?_;refine ja (eQ rfl) ?_;refine mq ?_;refine bV (s:=14) rfl (λhb=>?_) (λhb=>?_)
  .replace h:=dY (ti hb) h;refine au ?_;exact jz ((),true) h [0]
  .replace h:=cz (nC hb) h;refine ga (av rfl qD) ?_;refine eI rfl rfl rfl rfl rfl rfl (ak rfl bP iV rfl) ⟨rfl,trivial⟩ ?_;obtain⟨r5,pq,h⟩:=aa h;refine gc (ax [.tmp 16,.const (.int .i64 (0)),.const (.int .i64 (3))] rfl rfl As rfl (er k a0.2.1 0 3 r5 pq)) ?_;refine ga (eQ rfl) ?_;refine pf ?_;refine mq ?_;refine bV (s:=20) rfl (λhb=>?_) (λhb=>?_)
   .replace h:=dY (ti hb) h;refine au ?_;exact jz ((),true) h [0]
   .replace h:=cz (nC hb) h;refine ga (av rfl sL) ?_;refine eI rfl rfl rfl rfl rfl rfl (ak rfl bP iV rfl) ⟨rfl,trivial⟩ ?_;obtain⟨r6,mw,h⟩:=aa h;refine gc (ax [.tmp 22,.const (.int .i64 (0)),.const (.int .i64 (3))] rfl rfl As rfl (er k a0.2.2.1 0 3 r6 mw)) ?_;refine ga (eQ rfl) ?_;refine pf ?_;refine mq ?_;refine bV (s:=26) rfl (λhb=>?_) (λhb=>?_)
    .replace h:=dY (ti hb) h;refine au ?_;exact jz ((),true) h [0]
    .replace h:=cz (nC hb) h;refine ga (av rfl uF) ?_;refine eI rfl rfl rfl rfl rfl rfl (ak rfl bP iV rfl) ⟨rfl,trivial⟩ ?_;obtain⟨r7,mt,h⟩:=aa h;refine gc (ax [.tmp 28,.const (.int .i64 (1)),.const (.int .i64 (3))] rfl rfl As rfl (er k a0.2.2.2.1 1 3 r7 mt)) ?_;refine ga (eQ rfl) ?_;refine au ?_;exact jz ((), !r7) h [0]
 .
  refine cv h (λh=>?_) (λh=>?_)
  .refine au ?_;cases h;exact ra
  .refine au ?_;refine fl co ?_;refine lo fp ?_;refine ol pJ ?_;refine au ?_;refine ai (au ?_);refine jb (bj rfl) ?_;refine au ?_;refine ci h (λh=>?_) (λh=>?_)
   .refine au ?_;cases h;exact ra
   .refine au ?_;refine jb (iq rfl) ?_;refine au ?_;refine ci h (λh=>?_) (λh=>?_)
    .refine au ?_;cases h;exact ra
    .refine iU (fN (tn (cF (Z:=Unit) (α:=Unit) (λz9 x8=>[(1,Pt b1)]) (λz9 x8=>[.obj b1 25 (.rep ah a0)]) (λe=>e=r) h (λe h=>Option.some.inj h) (λK hR h=>?_) (λz9 x8 h=>?_))))
     .refine sr (fl co ?_);refine lo fp ?_;refine ol pJ ?_;refine fM rfl ?_;refine nt (ai (aF (λx j=>[(1,Pt b1),(42,.rep (.slice (.slice Tl)) a0.2.2.2.2.1),(43,I (a0.2.2.2.2.1.length:Int)),(44,I j)]) (λx j=>[.obj b1 25 (.rep ah a0)]) (fJ k a0) k () 0 (λ_=>rfl) h (SE.fin [0] ⟨rfl,rfl,rfl,rfl,trivial⟩ rfl) (λn x j h=>?_)));unfold fJ at h;refine sr (jb (bj rfl) ?_);refine au ?_;refine ci h (λh=>?_) (λh=>?_)
      .refine au ?_;refine ai (sr ?_);obtain⟨Y,J,h⟩:=aa h;refine jb (aG (t:=(.slice Tl)) rfl pJ kT J) ?_;refine ja (ao (t:=(.slice Tl)) rfl kT rfl) ?_;refine au ?_;refine lo bB ?_;refine mq ?_;obtain⟨mc,O,h⟩:=aa h;refine jb (ax [.tmp 48,.tmp 49] rfl rfl WQ rfl (vq k a0 Y mc O)) ?_;refine au ?_;refine jb (dG rfl) ?_;refine nt (cn h (λh=>?_) (λh=>?_))
       .refine au ?_;obtain rfl:=hR _ h;exact ra
       .refine au ?_;refine ae ?_;obtain⟨X,F,h⟩:=aa h;refine jb (be rfl F) ?_;refine au ?_;exact jz ((),X) h [0]
      .refine au ?_;exact jz ((),()) h [0]
     .refine au ?_;refine fl dA ?_;refine lo jw ?_;refine ol vh ?_;refine jb (iq rfl) ?_;refine nt (ci h (λh=>?_) (λh=>?_))
      .refine au ?_;cases h;exact ra
      .refine sk (cF (Z:=Unit) (α:=Unit) (λu y=>[]) (λu y=>[]) (λe=>e=r) h (λe h=>Option.some.inj h) (λK hR h=>?_) (λu y h=>?_))
       .refine sr (fl dA ?_);refine lo jw ?_;refine ol vh ?_;refine fM rfl ?_;refine nt (ai (aF (λl c=>[(1,Pt b1),(60,Rs aA a0.2.2.2.2.2),(61,I (a0.2.2.2.2.2.length:Int)),(62,I c)]) (λl c=>[.obj b1 25 (.rep ah a0)]) (fH k a0) k () 0 (λ_=>rfl) h (SE.fin [0] ⟨rfl,rfl,rfl,rfl,trivial⟩ rfl) (λn l c h=>?_)));unfold fH at h;refine sr (jb (bj rfl) ?_);refine au ?_;refine ci h (λh=>?_) (λh=>?_)
        .refine au ?_;refine ai (sr ?_);obtain⟨U,E,h⟩:=aa h;refine jb (aG (t:=aA) rfl vh ix E) ?_;refine ja (ao (t:=aA) rfl ix rfl) ?_;refine aQ rfl rfl rfl (aV rfl AY Lj) trivial λzz=>?_;refine aI rfl rfl (aD rfl ix rfl rfl rfl) ⟨rfl,rfl,trivial⟩ ?_;refine nt (sr (fr 1 ?_));refine lo bB ?_;refine fr 1 ?_;refine lo ix ?_;obtain⟨gw,M,h⟩:=aa h;refine jb (ax [.tmp 66,.tmp 67] rfl rfl Ve rfl (mT k a0 U gw M)) ?_;refine au ?_;refine jb (dG rfl) ?_;refine nt (cn h (λh=>?_) (λh=>?_))
         .refine au ?_;obtain rfl:=hR _ h;exact ra
         .refine au ?_;refine ae ?_;obtain⟨Q,D,h⟩:=aa h;refine jb (be rfl D) ?_;refine au ?_;exact jz ((),Q) h [1]
        .refine au ?_;exact jz ((),()) h []
       .refine au ?_;cases h;exact ra
def cR(k:Nat)(a0:ab)(a1:Int):Nat->((List Int)×Int)->Option (List Int)
 |0,_=>none
 |n+1,y5=>
  if y5.2 < 5 then((((bO (0≤y5.2/\y5.2 < 5)).bind λ_=>
  (fD k a1 y5.2).bind λe=>
  if e=true then((bO (0≤y5.2/\y5.2 < 5)).bind λ_=>
  some (List.set (List.set y5.1 (Int.toNat y5.2) (-1:Int)) (Int.toNat y5.2) a0.2.1)) else(some (List.set y5.1 (Int.toNat y5.2) (-1:Int)))):Option ((List Int))).bind λx7=>
  (ck (y5.2+1)).bind λc=>
  cR k a0 a1 n (x7,c)) else(some y5.1)
def fj(k:Nat)(a0:ab)(a1:Int):Option (List Int):=
 ((cR k a0 a1 k ([0,0,0,0,0],0)):Option ((List Int))).bind λx3=>
 some x3
theorem so{M:Md Tryz.prog}{bm:Nat}{c0 c1 c2 c3 c4 c5:Value}(hK:Kn M bm 0 [c0,c1,c2,c3,c4,c5])(k:Nat)(a0:ab)(a1:Int)(r:(List Int))(h:fj k a0 a1=some r):
 bT M 77 [.rep (.mo (Pv bm) [c0,c1,c2,c3,c4,c5] ah) a0,.eq (.int .u8 a1)] [] (λ_:Unit=>(bn [.rep Tr r],[])):=by
 unfold fj at h
 replace h:=aY h
 refine bT.of 24 Tryz.func77 rfl Tryz.ntmps77 rfl λS w0=>?_
 refine sr ?_
 refine aQ rfl rfl rfl (aV rfl MG O9) trivial λb1=>?_
 refine au ?_
 refine aQ rfl rfl rfl (aV rfl MG O9) trivial λb2=>?_
 refine nt ?_
 refine aJ (Z:=Unit) (α:=(List Int)) (λz4 x3=>[(4,Pt b1),(5,Pt b2)]) (λz4 x3=>[.obj b1 82 (.rep Tr [0,0,0,0,0]),.obj b2 82 (.rep Tr x3)]) h (λK h=>?_) (λz4 x3 h=>?_)
 .
  refine sr (fM rfl ?_);refine nt (ai (aF (λz6 y5=>[(0,.rep (.mo (Pv bm) [c0,c1,c2,c3,c4,c5] ah) a0),(1,.eq (.int .u8 a1)),(4,Pt b1),(5,Pt b2),(7,I y5.2)]) (λz6 y5=>[.obj b1 82 (.rep Tr [0,0,0,0,0]),.obj b2 82 (.rep Tr y5.1)]) (cR k a0 a1) k () ([0,0,0,0,0],0) (λ_=>rfl) h (SE.fin [1,0] ⟨rfl,rfl,rfl,rfl,rfl,trivial⟩ rfl) (λn z6 y5 h=>?_)));unfold cR at h;refine sr (jb (bj rfl) ?_);refine au ?_;refine ci h (λh=>?_) (λh=>?_)
  .refine sk (aJ (Z:=Unit) (α:=(List Int)) (λz8 x7=>[(0,.rep (.mo (Pv bm) [c0,c1,c2,c3,c4,c5] ah) a0),(1,.eq (.int .u8 a1)),(4,Pt b1),(5,Pt b2),(7,I y5.2)]) (λz8 x7=>[.obj b1 82 (.rep Tr [0,0,0,0,0]),.obj b2 82 (.rep Tr x7)]) h (λK h=>?_) (λz8 x7 h=>?_))
   .refine ai (au ?_);obtain⟨u9,e,h⟩:=aa h;refine jb (eD rfl E2 bP (ap e).1 (ap e).2) ?_;refine fr 1 ?_;refine aI rfl rfl (iE (t:=Ti) (off:=0) (i:=y5.2) (N:=5) rfl bP .int rfl rfl rfl rfl (ap e).1 (ap e).2 rfl) ⟨rfl,rfl,trivial⟩ ?_;refine au ?_;obtain⟨u,l,h⟩:=aa h;refine jb (ax [.tmp 12,.tmp 13] rfl rfl KQ rfl (iH k a1 y5.2 u l)) ?_;refine nt (cv h (λh=>?_) (λh=>?_))
    .refine ae (au ?_);refine ja (mK rfl) ?_;refine ja (iF rfl iS) ?_;refine ja (jx 1 false rfl qD rfl rfl) ?_;refine ja (kA (t:=Ti) rfl bP (hK.sub 1 1 rfl (le_of_ble_eq_true rfl)) rfl rfl) ?_;obtain⟨x,c,h⟩:=aa h;refine jb (eD rfl E2 bP (ap c).1 (ap c).2) ?_;refine aI rfl rfl (iE (t:=Ti) (off:=0) (i:=y5.2) (N:=5) rfl bP .int rfl rfl rfl rfl (ap c).1 (ap c).2 rfl) ⟨rfl,rfl,trivial⟩ ?_;refine au ?_;exact jz ((),List.set (List.set y5.1 (Int.toNat y5.2) (-1:Int)) (Int.toNat y5.2) a0.2.1) h [1,0]
    .refine au ?_;exact jz ((),List.set y5.1 (Int.toNat y5.2) (-1:Int)) h [1,0]
   .refine ae ?_;obtain⟨s,j,h⟩:=aa h;refine jb (be rfl j) ?_;refine au ?_;exact jz ((),(x7,s)) h [0,1]
  .refine au ?_;exact jz ((),y5.1) h [0,1]
 .
  refine sr (fr 1 ?_);refine lo ko ?_;refine fr 1 ?_;refine aI rfl rfl (aD rfl ko rfl rfl rfl) ⟨rfl,rfl,trivial⟩ ?_;refine au ?_;obtain rfl:=Option.some.inj h;exact aN () [.rep Tr x3] 0 ⟨⟨_,_,_,_,_,rfl,(.head _),ko,(kB),rfl⟩,trivial⟩ rfl
def dC(k:Nat)(a0:(List Int))(a1:Int):Nat->Int->Option (Except Int Unit)
 |0,_=>none
 |n+1,y3=>
  if y3 < (a0.length:Int) then((aK a0 y3).bind λx5=>
  if a1=x5 then(some (.error y3)) else((ck (y3+1)).bind λx6=>
  dC k a0 a1 n x6)) else(some (.ok ()))
def ib(k:Nat)(a0:(List Int))(a1:Int):Option Int:=
 bE (α:=Unit) (dC k a0 a1 k 0) (some) λ_=>
 some (-1:Int)
theorem oa(k:Nat)(a0:(List Int))(a1:Int)(r:Int)(h:ib k a0 a1=some r):
 cT Tryz.prog 50 [.rep Tl a0,I a1] [] (λ_:Unit=>(bn [I r],[])):=by
 unfold ib at h
 replace h:=aY h
 refine cT.of 19 Tryz.func50 rfl Tryz.ntmps50 rfl λS w0=>?_
 refine sr ?_
 refine cq ?_
 refine nt ?_
 refine cF (Z:=Unit) (α:=Unit) (λz2 x1=>[]) (λz2 x1=>[]) (λe=>e=r) h (λe h=>Option.some.inj h) (λK hR h=>?_) (λz2 x1 h=>?_)
 .
  refine au ?_;refine ol gX ?_;refine fM rfl ?_;refine nt (ai (aF (λz4 y3=>[(0,.rep Tl a0),(1,I a1),(7,I (a0.length:Int)),(8,I y3)]) (λz4 y3=>[]) (dC k a0 a1) k () 0 (λ_=>rfl) h (SE.fin [] ⟨rfl,rfl,rfl,rfl,trivial⟩ rfl) (λn z4 y3 h=>?_)));unfold dC at h;refine sr (jb (bj rfl) ?_);refine au ?_;refine ci h (λh=>?_) (λh=>?_)
  .refine au ?_;refine ai (au ?_);obtain⟨x5,j,h⟩:=aa h;refine jb (aG (t:=Ti) rfl gX bP j) ?_;refine ja (ao (t:=Ti) rfl bP rfl) ?_;refine jb (iG rfl) ?_;refine nt (ci h (λh=>?_) (λh=>?_))
   .refine au ?_;obtain rfl:=hR _ h;exact ra
   .refine au ?_;refine ae ?_;obtain⟨x6,c,h⟩:=aa h;refine jb (be rfl c) ?_;refine au ?_;exact jz ((),x6) h []
  .refine au ?_;exact jz ((),()) h []
 .
  refine au ?_;cases h;exact ra
def me(k:Nat)(a0:Int):Option Bool:=
 some (!decide (a0=a0))
theorem tO(k:Nat)(a0:Int)(r:Bool)(h:me k a0=some r):
 cT Tryz.prog 156 [I a0] [] (λ_:Unit=>(bn [.eq (.bool r)],[])):=by
 unfold me at h
 replace h:=aY h
 refine cT.of 6 Tryz.func156 rfl Tryz.ntmps156 rfl λS w0=>?_
 refine au ?_
 refine jb (dG rfl) ?_
 refine au ?_
 cases h
 exact ra
def qE(k:Nat)(a0:Int)(a1:Int):Option Bool:=
 (((me k a0).bind λr3=>
 if r3=true then((me k a1).bind λr4=>
 if¬(r4=true) then(some true) else(some (decide (a0 < a1)))) else(some (decide (a0 < a1)))):Option (Bool)).bind λx1=>
 some x1
theorem C3(k:Nat)(a0:Int)(a1:Int)(r:Bool)(h:qE k a0 a1=some r):
 cT Tryz.prog 146 [I a0,I a1] [] (λ_:Unit=>(bn [.eq (.bool r)],[])):=by
 unfold qE at h
 replace h:=aY h
 refine cT.of 17 Tryz.func146 rfl Tryz.ntmps146 rfl λS w0=>?_
 refine sr ?_
 refine cq ?_
 refine nt ?_
 refine aJ (Z:=Unit) (α:=Bool) (λz2 x1=>[(4,.eq (.bool x1))]) (λz2 x1=>[]) h (λK h=>?_) (λz2 x1 h=>?_)
 .
  refine ae (mq ?_);obtain⟨r3,e,h⟩:=aa h;refine ja (ax [.tmp 5] rfl rfl Qi rfl (tO k a0 r3 e)) ?_;refine mq ?_;refine bV (s:=7) rfl (λhb=>?_) (λhb=>?_)
  .replace h:=dY (Me hb) h;refine gm ?_;obtain⟨r4,c,h⟩:=aa h;refine ga (ax [.tmp 8] rfl rfl Qi rfl (tO k a1 r4 c)) ?_;refine ga (eQ rfl) ?_;refine pt ?_;refine mq ?_;refine bV (s:=12) rfl (λhb=>?_) (λhb=>?_)
   .replace h:=dY (ti hb) h;refine au ?_;exact jz ((),true) h []
   .replace h:=cz (nC hb) h;refine au ?_;refine gb (bj rfl) ?_;refine au ?_;exact jz ((),decide (a0 < a1)) h []
  .replace h:=cz (MA hb) h;refine au ?_;refine gb (bj rfl) ?_;refine au ?_;exact jz ((),decide (a0 < a1)) h []
 .
  refine cC ?_;cases h;exact ra
def bL(k:Nat)(a1:Int):Nat->((List Int)×Int)->Option (List Int)
 |0,_=>none
 |n+1,y6=>
  ((if a1 < y6.2 then((aK y6.1 y6.2).bind λu=>
  (ck (y6.2 - 1)).bind λs=>
  (aK y6.1 s).bind λr=>
  (qE k u r).bind λx=>
  some x) else(some false)):Option (Bool)).bind λx8=>
  if x8=true then((ck (y6.2 - 1)).bind λe=>
  (ck (y6.2 - 1)).bind λl=>
  (aK y6.1 l).bind λc=>
  (aK y6.1 y6.2).bind λj=>
  (aK y6.1 y6.2).bind λD=>
  (aK (List.set y6.1 (Int.toNat y6.2) c) e).bind λy=>
  (ck (y6.2 - 1)).bind λh=>
  bL k a1 n (List.set (List.set y6.1 (Int.toNat y6.2) c) (Int.toNat e) j,h)) else(some y6.1)
def bq(k:Nat)(a1:Int)(a2:Int):Nat->((List Int)×Int)->Option (List Int)
 |0,_=>none
 |n+1,y2=>
  if y2.2 < a2 then(((bL k a1 k (y2.1,y2.2)):Option ((List Int))).bind λx4=>
  (ck (y2.2+1)).bind λc=>
  bq k a1 a2 n (x4,c)) else(some y2.1)
def ce(k:Nat)(a0:(List Int))(a1:Int)(a2:Int):Option (List Int):=
 (ck (a1+1)).bind λx1=>
 bq k a1 a2 k (a0,x1)
theorem kp(k:Nat)(a0:(List Int))(c:Value)(a1:Int)(a2:Int)(r:(List Int))(h:ce k a0 a1 a2=some r):
 cT Tryz.prog 140 [.eq c,I a1,I a2] [.sl c 3 Ti a0] (λ_:Unit=>(bn [],[.sl c 3 Ti r])):=by
 unfold ce at h
 replace h:=aY h
 refine cT.of 49 Tryz.func140 rfl Tryz.ntmps140 rfl λS w0=>?_
 refine au ?_
 obtain⟨x1,Yp,h⟩:=aa h
 refine jb (be rfl Yp) ?_
 refine au ?_
 refine ai ?_
 refine aF (λz3 y2=>[(0,.eq c),(1,I a1),(2,I a2),(6,I y2.2)]) (λz3 y2=>[.sl c 3 Ti y2.1]) (bq k a1 a2) k () (a0,x1) (λ_=>rfl) h (SE.fin [0] ⟨rfl,rfl,rfl,rfl,trivial⟩ rfl) (λn z3 y2 h=>?_)
 unfold bq at h
 refine au ?_
 refine jb (bj rfl) ?_
 refine nt ?_
 refine ci h (λh=>?_) (λh=>?_)
 .
  refine sk (aJ (Z:=Unit) (α:=(List Int)) (λz5 x4=>[(0,.eq c),(1,I a1),(2,I a2),(6,I y2.2)]) (λz5 x4=>[.sl c 3 Ti x4]) h (λK h=>?_) (λz5 x4 h=>?_))
  .refine ai (au ?_);refine ai (aF (λz7 y6=>[(0,.eq c),(1,I a1),(2,I a2),(6,I y2.2),(7,I y6.2)]) (λz7 y6=>[.sl c 3 Ti y6.1]) (bL k a1) k () (y2.1,y2.2) (λ_=>rfl) h (SE.fin [0] ⟨rfl,rfl,rfl,rfl,rfl,trivial⟩ rfl) (λn z7 y6 h=>?_));unfold bL at h;refine bC (aJ (Z:=Unit) (α:=Bool) (λz9 x8=>[(0,.eq c),(1,I a1),(2,I a2),(6,I y2.2),(7,I y6.2),(30,.eq (.bool x8))]) (λz9 x8=>[.sl c 3 Ti y6.1]) h (λK h=>?_) (λz9 x8 h=>?_))
   .refine bD ?_;refine dm ?_;refine dm ?_;refine db (iq rfl) ?_;refine lY rfl rfl rfl (aP rfl) ⟨rfl,trivial⟩ (λhb=>?_) (λhb=>?_)
    .replace h:=dY (vz hb) h;refine bo rfl rfl rfl rfl rfl (aP rfl) ⟨rfl,rfl,trivial⟩ ?_;refine bo rfl rfl rfl rfl rfl (aP rfl) ⟨rfl,rfl,trivial⟩ ?_;obtain⟨Yf,x,h⟩:=aa h;refine fW 0 rfl rfl rfl rfl rfl rfl (cM (t:=Ti) rfl gX bP x) ⟨rfl,rfl,rfl,trivial⟩ ?_;refine fW 0 rfl rfl rfl rfl rfl rfl (ig (i:=Int.toNat y6.2) (off:=0) rfl bP (λ_=>rfl) rfl (dR x).2.2 rfl) ⟨rfl,rfl,trivial⟩ ?_;refine bo rfl rfl rfl rfl rfl (aP rfl) ⟨rfl,rfl,trivial⟩ ?_;refine bo rfl rfl rfl rfl rfl (aP rfl) ⟨rfl,rfl,trivial⟩ ?_;obtain⟨Ye,mw,h⟩:=aa h;refine bo rfl rfl rfl rfl rfl (eC rfl mw) ⟨rfl,rfl,rfl,trivial⟩ ?_;obtain⟨Yd,u,h⟩:=aa h;refine fW 0 rfl rfl rfl rfl rfl rfl (cM (t:=Ti) rfl gX bP u) ⟨rfl,rfl,rfl,trivial⟩ ?_;refine fW 0 rfl rfl rfl rfl rfl rfl (ig (i:=Int.toNat Ye) (off:=0) rfl bP (λ_=>rfl) rfl (dR u).2.2 rfl) ⟨rfl,rfl,trivial⟩ ?_;refine df cy ?_;obtain⟨F,pq,h⟩:=aa h;refine gb (ax [.tmp 23,.tmp 28] rfl rfl Vk rfl (C3 k Yf Yd F pq)) ?_;refine au ?_;exact jz ((),F) h [0]
    .replace h:=cz (vA hb) h;iterate 9 refine dg ?_
     refine df cy ?_;refine au ?_;exact jz ((),false) h [0]
   .refine cv h (λh=>?_) (λh=>?_)
    .refine au ?_;refine ai (ng ?_);refine aO rfl rfl rfl (aP rfl) ⟨rfl,trivial⟩ ?_;refine aO rfl rfl rfl (aP rfl) ⟨rfl,trivial⟩ ?_;refine aO rfl rfl rfl (aP rfl) ⟨rfl,trivial⟩ ?_;refine aO rfl rfl rfl (aP rfl) ⟨rfl,trivial⟩ ?_;obtain⟨y,mt,h⟩:=aa h;refine aO rfl rfl rfl (eC rfl mt) ⟨rfl,rfl,trivial⟩ ?_;refine aO rfl rfl rfl (aP rfl) ⟨rfl,trivial⟩ ?_;refine aO rfl rfl rfl (aP rfl) ⟨rfl,trivial⟩ ?_;obtain⟨zM,mc,h⟩:=aa h;refine aO rfl rfl rfl (eC rfl mc) ⟨rfl,rfl,trivial⟩ ?_;obtain⟨E,s,h⟩:=aa h;refine eZ 0 rfl rfl rfl rfl (cM (t:=Ti) rfl gX bP s) ⟨rfl,rfl,trivial⟩ ?_;refine eZ 0 rfl rfl rfl rfl (ig (i:=Int.toNat zM) (off:=0) rfl bP (λ_=>rfl) rfl (dR s).2.2 rfl) ⟨rfl,trivial⟩ ?_;refine aO rfl rfl rfl (aP rfl) ⟨rfl,trivial⟩ ?_;refine aO rfl rfl rfl (aP rfl) ⟨rfl,trivial⟩ ?_;obtain⟨D,l,h⟩:=aa h;refine eZ 0 rfl rfl rfl rfl (cM (t:=Ti) rfl gX bP l) ⟨rfl,rfl,trivial⟩ ?_;refine eZ 0 rfl rfl rfl rfl (ig (i:=Int.toNat y6.2) (off:=0) rfl bP (λ_=>rfl) rfl (dR l).2.2 rfl) ⟨rfl,trivial⟩ ?_;obtain⟨Yx,j,h⟩:=aa h;refine eZ 0 rfl rfl rfl rfl (cM (t:=Ti) rfl gX bP j) ⟨rfl,rfl,trivial⟩ ?_;refine nj 15 [true,true,false,false,false,true,true,true,true,true,true,true,true,true,true] [48] [] [] rfl (by kernel_rfl) (by kernel_rfl) (by kernel_rfl) cy (λvs hv hB=>?_);obtain⟨w0,YL,rfl,Yo⟩:=an hv;obtain⟨w1,YK,rfl,Yn⟩:=an Yo;obtain⟨w2,YJ,rfl,Ym⟩:=an Yn;obtain⟨w3,YI,rfl,Yl⟩:=an Ym;obtain⟨w4,YH,rfl,Yk⟩:=an Yl;obtain⟨w5,YG,rfl,Yj⟩:=an Yk;obtain⟨w6,YF,rfl,Yi⟩:=an Yj;obtain⟨w7,YE,rfl,Yh⟩:=an Yi;obtain⟨w8,YD,rfl,Yg⟩:=an Yh;obtain⟨w9,Yv,rfl,X⟩:=an Yg;obtain⟨YC,Yu,rfl,U⟩:=an X;obtain⟨YB,Yt,rfl,Q⟩:=an U;obtain⟨YA,Ys,rfl,O⟩:=an Q;obtain⟨Yz,Yr,rfl,M⟩:=an O;obtain⟨Yy,Yq,rfl,J⟩:=an M;obtain rfl:=jY J;refine⟨[0],[.sl c 3 Ti y6.1],by kernel_rfl,by decide,?_⟩;refine qL rfl rfl (iD (i:=Int.toNat y6.2) rfl bP rfl (o8 j) rfl .int rfl) ⟨rfl,rfl,trivial⟩ (by kernel_rfl) ?_;obtain⟨Yw,e,h⟩:=aa h;refine po rfl rfl rfl rfl (cM (t:=Ti) rfl gX bP e) ⟨rfl,rfl,trivial⟩ (by kernel_rfl) ?_;refine qL rfl rfl (iD (i:=Int.toNat y) rfl bP rfl (o8 e) rfl .int rfl) ⟨rfl,rfl,trivial⟩ (by kernel_rfl) ?_;refine uQ ?_;refine bf (SE.fin (Γ':=[(0,.eq c),(1,I a1),(2,I a2),(6,I y2.2),(7,I y6.2)]) (Δ':=[.sl c 3 Ti (List.set (List.set y6.1 (Int.toNat y6.2) E) (Int.toNat y) D)]) [0] ⟨rfl,rfl,rfl,rfl,rfl,trivial⟩ rfl) ?_;refine au ?_;refine ae (mq ?_);obtain⟨zz,gw,h⟩:=aa h;refine jb (eC rfl gw) ?_;refine au ?_;exact jz ((),(List.set (List.set y6.1 (Int.toNat y6.2) E) (Int.toNat y) D,zz)) h [0]
    .refine au ?_;exact jz ((),y6.1) h [0]
  .refine ae (mq ?_);obtain⟨qt,Y,h⟩:=aa h;refine jb (be rfl Y) ?_;refine au ?_;exact jz ((),(x4,qt)) h [0]
 .
  refine au ?_;refine kh ?_;cases h;exact aN () [] 1 trivial rfl
def lF(k:Nat)(a0:Int):Option Int:=
 ((if 4294967296≤a0 then(some (ji .u64 a0 32,32)) else(some (a0,0))):Option (Int×Int)).bind λx1=>
 ((if 65536≤x1.1 then((ck (x1.2+16)).bind λx5=>
 some (ji .u64 x1.1 16,x5)) else(some (x1.1,x1.2))):Option (Int×Int)).bind λx3=>
 ((if 256≤x3.1 then((ck (x3.2+8)).bind λx8=>
 some (ji .u64 x3.1 8,x8)) else(some (x3.1,x3.2))):Option (Int×Int)).bind λx6=>
 (ED Oo (IntKind.u8.wrap x6.1)).bind λx9=>
 (ck (x9.toNat:Int)).bind λe=>
 (ck (x6.2+e)).bind λc=>
 some c
theorem sH(k:Nat)(a0:Int)(r:Int)(h:lF k a0=some r):
 cT Tryz.prog 150 [.eq (.int .u64 a0)] [] (λ_:Unit=>(bn [I r],[])):=by
 unfold lF at h
 replace h:=aY h
 refine cT.of 25 Tryz.func150 rfl Tryz.ntmps150 rfl λS w0=>?_
 refine sr ?_
 refine cq ?_
 refine nt ?_
 refine aJ (Z:=Unit) (α:=Int×Int) (λz2 x1=>[(0,.eq (.int .u64 x1.1)),(2,I x1.2)]) (λz2 x1=>[]) h (λK h=>?_) (λz2 x1 h=>?_)
 .
  refine au ?_;refine jb (i9 rfl) ?_;refine nt (ci h (λh=>?_) (λh=>?_))
  .refine au ?_;refine bU rfl (wG rfl (by decide)) ⟨rfl,rfl,trivial⟩ ?_;refine au ?_;refine ae (au ?_);exact jz ((),(ji .u64 a0 32,32)) h []
  .refine au ?_;exact jz ((),(a0,0)) h []
 .
  refine aJ (Z:=Unit) (α:=Int×Int) (λz4 x3=>[(0,.eq (.int .u64 x3.1)),(2,I x3.2)]) (λz4 x3=>[]) h (λK h=>?_) (λz4 x3 h=>?_)
  .refine au ?_;refine jb (i9 rfl) ?_;refine nt (ci h (λh=>?_) (λh=>?_))
   .refine au ?_;refine bU rfl (wG rfl (by decide)) ⟨rfl,rfl,trivial⟩ ?_;refine au ?_;refine ae (mq ?_);obtain⟨x5,n,h⟩:=aa h;refine jb (be rfl n) ?_;refine au ?_;exact jz ((),(ji .u64 x1.1 16,x5)) h []
   .refine au ?_;exact jz ((),(x1.1,x1.2)) h []
  .refine aJ (Z:=Unit) (α:=Int×Int) (λz7 x6=>[(0,.eq (.int .u64 x6.1)),(2,I x6.2)]) (λz7 x6=>[]) h (λK h=>?_) (λz7 x6 h=>?_)
   .refine au ?_;refine jb (i9 rfl) ?_;refine nt (ci h (λh=>?_) (λh=>?_))
    .refine au ?_;refine bU rfl (wG rfl (by decide)) ⟨rfl,rfl,trivial⟩ ?_;refine au ?_;refine ae (mq ?_);obtain⟨x8,l,h⟩:=aa h;refine jb (be rfl l) ?_;refine au ?_;exact jz ((),(ji .u64 x3.1 8,x8)) h []
    .refine au ?_;exact jz ((),(x3.1,x3.2)) h []
   .refine au ?_;refine ja (ue rfl VX U5) ?_;obtain⟨x9,j,h⟩:=aa h;refine ja (BN rfl U9 j) ?_;obtain⟨u,e,h⟩:=aa h;refine ja (BO rfl U5 U3 e) ?_;obtain⟨s,c,h⟩:=aa h;refine jb (be rfl c) ?_;refine au ?_;cases h;exact ra
def ry(k:Nat)(a0:Int):Option Int:=
 (lF k a0).bind λr1=>
 some r1
theorem EQ(k:Nat)(a0:Int)(r:Int)(h:ry k a0=some r):
 cT Tryz.prog 139 [.eq (.int .u64 a0)] [] (λ_:Unit=>(bn [I r],[])):=by
 unfold ry at h
 replace h:=aY h
 refine cT.of 8 Tryz.func139 rfl Tryz.ntmps139 rfl λS w0=>?_
 refine au ?_
 refine LW (λhb=>(by cases hb)) (λhb=>?_)
 refine au ?_
 obtain⟨r1,c,h⟩:=aa h
 have e:=sH k a0 r1 c
 refine ja (ax [.tmp 6] rfl rfl Vi rfl e) ?_
 refine au ?_
 cases h
 exact ra
def cP(k:Nat)(a0:(List Int))(a1:Int)(a2:Int)(a3:Int):Nat->Unit->Option (List Int)
 |0,_=>none
 |n+1,y1=>
  (ck (a2 - a1)).bind λx3=>
  if x3≤12 then((ce k a0 a1 a2).bind λr4=>
  some r4) else(if a3=0 then(none) else(none))
def de(k:Nat)(a0:(List Int))(a1:Int)(a2:Int)(a3:Int):Option (List Int):=
 cP k a0 a1 a2 a3 k ()
theorem np(k:Nat)(a0:(List Int))(c:Value)(a1:Int)(a2:Int)(a3:Int)(r:(List Int))(h:de k a0 a1 a2 a3=some r):
 cT Tryz.prog 138 [.eq c,I a1,I a2,I a3] [.sl c 3 Ti a0] (λ_:Unit=>(bn [],[.sl c 3 Ti r])):=by
 unfold de at h
 replace h:=aY h
 refine cT.of 134 Tryz.func138 rfl Tryz.ntmps138 rfl λS w0=>?_
 refine au ?_
 refine ai ?_
 refine aF (λz2 y1=>[(0,.eq c),(1,I a1),(2,I a2),(3,I a3),(8,.eq (.bool true)),(9,.eq (.bool true))]) (λz2 y1=>[.sl c 3 Ti a0]) (cP k a0 a1 a2 a3) k () () (λ_=>rfl) h (SE.fin [0] ⟨rfl,rfl,rfl,rfl,rfl,rfl,trivial⟩ rfl) (λn z2 y1 h=>?_)
 unfold cP at h
 refine ai ?_
 refine au ?_
 obtain⟨x3,e,h⟩:=aa h
 refine jb (eC rfl e) ?_
 refine au ?_
 refine jb (yJ rfl) ?_
 refine nt ?_
 refine ci h (λh=>?_) (λh=>?_)
 .
  refine au ?_;obtain⟨r4,j,h⟩:=aa h;refine kc (ax [.tmp 24,.tmp 25,.tmp 26] rfl rfl Vl rfl (kp k a0 c a1 a2 r4 j)) ?_;refine au ?_;cases h;exact aN () [] 1 trivial rfl
 .
  refine au ?_;refine jb (iG rfl) ?_;refine nt (ci h (λh=>?_) (λh=>?_))
  .cases h
  .cases h
def gA(k:Nat)(a0:(List Int)):Option (List Int):=
 (ry k (IntKind.u64.wrap (a0.length:Int))).bind λr1=>
 (de k a0 0 (a0.length:Int) r1).bind λr2=>
 some r2
theorem vm(k:Nat)(a0:(List Int))(c:Value)(r:(List Int))(h:gA k a0=some r):
 cT Tryz.prog 125 [.eq c] [.sl c 3 Ti a0] (λ_:Unit=>(bn [],[.sl c 3 Ti r])):=by
 unfold gA at h
 replace h:=aY h
 refine cT.of 11 Tryz.func125 rfl Tryz.ntmps125 rfl λS w0=>?_
 refine au ?_
 refine ka (ou rfl rfl gX) ?_
 refine au ?_
 refine ae ?_
 refine au ?_
 refine ja (ue rfl U3 Xz) ?_
 obtain⟨r1,j,h⟩:=aa h
 have n:=EQ k (IntKind.u64.wrap (a0.length:Int)) r1 j
 refine ja (ax [.tmp 8] rfl rfl Vm rfl n) ?_
 obtain⟨r2,e,h⟩:=aa h
 have l:=np k a0 c 0 (a0.length:Int) r1 r2 e
 refine nT rfl rfl rfl (ax [.tmp 5,.const (.int .i64 (0)),.tmp 6,.tmp 9] rfl rfl Vn rfl l) ⟨rfl,rfl,rfl,rfl,trivial⟩ ?_
 refine bp ?_
 refine kh ?_
 cases h
 exact aN () [] 1 trivial rfl
def cS(k:Nat)(a1:Int)(x3:(List (List Int))):Nat->Int->Option (Except (Int ⊕ (List Int)) Unit)
 |0,_=>none
 |n+1,y4=>
  if y4 < (x3.length:Int) then((aK x3 y4).bind λx6=>
  (ib k x6 a1).bind λr7=>
  if 0≤r7 then(((if 0 < r7 then((ck (r7 - 1)).bind λs=>
  (aK x6 s).bind λe=>
  (bO (aZ (length ([]:(List Int))+length [e]))).bind λ_=>
  some (([]:(List Int))++[e])) else(some ([]:(List Int)))):Option ((List Int))).bind λx8=>
  (((ck (r7+1)).bind λl=>
  if l < (x6.length:Int) then((ck (r7+1)).bind λj=>
  (aK x6 j).bind λc=>
  (bO (aZ (length x8+length [c]))).bind λ_=>
  some (x8++[c])) else(some x8)):Option ((List Int))).bind λr=>
  (gA k r).bind λu=>
  some (.error (Sum.inr u:(Int ⊕ (List Int))))) else((ck (y4+1)).bind λh=>
  cS k a1 x3 n h)) else(some (.ok ()))
def eG(k:Nat):Nat->ab->Int->Int->Option ((Int ⊕ (List Int)))
 |0,_,_,_=>none
 |m0+1,a0,a1,a2=>
  bE (α:=Unit) ((aK a0.2.2.2.2.1 a2).bind λx3=>
  cS k a1 x3 k 0) (some) λ_=>
  ((if 0 < a2 then((ck (a2 - 1)).bind λh=>
  ((eG k m0) a0 a1 h).bind λc=>
  if Nz c=true then((ck (1+(Ue c))).bind λe=>
  some e) else(some 1)) else(some 1)):Option (Int)).bind λj=>
  some (Sum.inl j:(Int ⊕ (List Int)))
theorem mP{M:Md Tryz.prog}{bm:Nat}{c0 c1 c2 c3 c4 c5:Value}(hK:Kn M bm 0 [c0,c1,c2,c3,c4,c5])(k:Nat):
 ∀(n:Nat) (a0:ab) (a1:Int) (a2:Int) (r:(Int ⊕ (List Int))),eG k n a0 a1 a2=some r->bT M 99 [.rep (.mo (Pv bm) [c0,c1,c2,c3,c4,c5] ah) a0,I a1,I a2] ([]) (λ_:Unit=>(bn [.rep (.pl 157 159 Tl) r],[])):=by
 intro n
 induction n with
 |zero=>intro a0 a1 a2 r h;cases h
 |succ m0 ih=>
  intro a0 a1 a2 r h;rw [eG] at h;replace h:=aY h;refine bT.of 80 Tryz.func99 rfl Tryz.ntmps99 rfl λS w0=>?_;refine sr (cq (nt ?_));refine cF (Z:=Unit) (α:=Unit) (λz2 x1=>[(0,.rep (.mo (Pv bm) [c0,c1,c2,c3,c4,c5] ah) a0),(1,I a1),(2,I a2)]) (λz2 x1=>[]) (λe=>e=r) h (λe h=>Option.some.inj h) (λK hR h=>?_) (λz2 x1 h=>?_)
  .refine au ?_;refine ja (mK rfl) ?_;refine ja (iF rfl iS) ?_;refine ja (jx 1 false rfl co rfl rfl) ?_;refine ja (kA (t:=(.slice (.slice Tl))) rfl fp (hK.sub 4 1 rfl (le_of_ble_eq_true rfl)) rfl rfl) ?_;refine mq ?_;obtain⟨x3,Yf,h⟩:=aa h;refine jb (aG (t:=(.slice Tl)) rfl pJ kT Yf) ?_;refine ja (ao (t:=(.slice Tl)) rfl kT rfl) ?_;refine ol nR ?_;refine fM rfl ?_;refine nt (ai (aF (λz5 y4=>[(0,.rep (.mo (Pv bm) [c0,c1,c2,c3,c4,c5] ah) a0),(1,I a1),(2,I a2),(21,.rep (.slice Tl) x3),(22,I (x3.length:Int)),(23,I y4)]) (λz5 y4=>[]) (cS k a1 x3) k () 0 (λ_=>rfl) h (SE.fin [] ⟨rfl,rfl,rfl,rfl,rfl,rfl,trivial⟩ rfl) (λn z5 y4 h=>?_)));unfold cS at h;refine sr (jb (bj rfl) ?_);refine au ?_;refine ci h (λh=>?_) (λh=>?_)
   .refine au ?_;refine ai (sr ?_);obtain⟨x6,Ye,h⟩:=aa h;refine jb (aG (t:=Tl) rfl nR eB Ye) ?_;refine ja (ao (t:=Tl) rfl eB rfl) ?_;refine au ?_;obtain⟨r7,Yg,h⟩:=aa h;refine jb (ax [.tmp 27,.tmp 28] rfl rfl U6 rfl (oa k x6 a1 r7 Yg)) ?_;refine au ?_;refine jb (i9 rfl) ?_;refine nt (ci h (λh=>?_) (λh=>?_))
    .refine sr (cq (nt ?_));refine aJ (Z:=Value) (α:=(List Int)) (λz9 x8=>[(8,.rep Tl x6),(9,I r7),(10,.eq z9)]) (λz9 x8=>[.sl z9 3 Ti x8]) h (λK h=>?_) (λz9 x8 h=>?_)
     .refine au ?_;refine jb (iq rfl) ?_;refine nt (ci h (λh=>?_) (λh=>?_))
      .refine ae (au ?_);obtain⟨Yj,U,h⟩:=aa h;refine jb (eC rfl U) ?_;obtain⟨x,Q,h⟩:=aa h;refine jb (aG (t:=Ti) rfl gX bP Q) ?_;refine ja (ao (t:=Ti) rfl bP rfl) ?_;refine ja (aX (t:=Ti) [(.tmp 39,_)] [x] rfl rfl cX (.cons rfl .int .nil) rfl rfl) ?_;refine dQ (SE.nil 3 Ti) ?_;obtain⟨Yl,Y,h⟩:=aa h;refine cI rfl rfl rfl (bg rfl rfl cX (ap Y)) ⟨rfl,rfl,trivial⟩ λzz=>?_;refine au ?_;exact jz (zz,([]:(List Int))++[x]) h [0]
      .refine iU (aH (bf (SE.nil 3 Ti) ?_));exact jz ((.slice none 0 0),([]:(List Int))) h [0]
     .refine aJ (Z:=Value) (α:=(List Int)) (λc j=>[(10,.eq c)]) (λc j=>[.sl c 3 Ti j]) h (λK h=>?_) (λc j h=>?_)
      .refine au ?_;obtain⟨Yi,O,h⟩:=aa h;refine jb (be rfl O) ?_;refine mq ?_;refine ol gX ?_;refine jb (bj rfl) ?_;refine nt (ci h (λh=>?_) (λh=>?_))
       .refine ae (au ?_);obtain⟨Yh,J,h⟩:=aa h;refine jb (be rfl J) ?_;obtain⟨u,F,h⟩:=aa h;refine jb (aG (t:=Ti) rfl gX bP F) ?_;refine ja (ao (t:=Ti) rfl bP rfl) ?_;refine ja (aX (t:=Ti) [(.tmp 52,_)] [u] rfl rfl cX (.cons rfl .int .nil) rfl rfl) ?_;obtain⟨Yk,X,h⟩:=aa h;refine cI rfl rfl rfl (bg rfl rfl cX (ap X)) ⟨rfl,rfl,trivial⟩ λqt=>?_;refine au ?_;exact jz (qt,x8++[u]) h [0]
       .refine au ?_;exact jz (z9,x8) h [0]
      .refine au ?_;obtain⟨Yd,mc,h⟩:=aa h;refine ka (ax [.tmp 55] rfl rfl Vo rfl (vm k j c Yd mc)) ?_;refine nt (sr (mq ?_));refine dQ (fV [10,55,57] ⟨rfl,rfl,rfl,trivial⟩) ?_;refine ja (cN [(0,.tmp 57,_)] rfl Uf PZ SH (fX ⟨rfl,trivial⟩) rfl) ?_;refine ja (NG (t0:=157) (t:=Ti) rfl Xx) ?_;refine au ?_;obtain rfl:=hR _ h;exact ra
    .refine au ?_;refine ae ?_;obtain⟨pq,E,h⟩:=aa h;refine jb (be rfl E) ?_;refine au ?_;exact jz ((),pq) h []
   .refine au ?_;exact jz ((),()) h []
  .refine sr (cq (nt ?_));refine aJ (Z:=Unit) (α:=Int) (λs l=>[(11,I l)]) (λs l=>[]) h (λK h=>?_) (λs l h=>?_)
   .refine au ?_;refine jb (iq rfl) ?_;refine nt (ci h (λh=>?_) (λh=>?_))
    .refine au ?_;obtain⟨mw,D,h⟩:=aa h;refine jb (eC rfl D) ?_;obtain⟨zM,gw,h⟩:=aa h;refine jc (bb [.tmp 64,.tmp 65,.tmp 67] rfl rfl RV rfl (ih a0 a1 mw zM gw)) ?_;refine bU rfl (FG rfl IN (by decide)) ⟨rfl,trivial⟩ ?_;refine au ?_;refine aQ rfl rfl rfl (aV rfl Ih Qp) trivial λYm=>?_;refine aI rfl rfl (aD rfl P9 trivial rfl rfl) ⟨rfl,rfl,trivial⟩ ?_;refine au ?_;refine cv h (λh=>?_) (λh=>?_)
     .refine ae (mq ?_);refine fl F7 ?_;refine lo bP ?_;obtain⟨mt,y,h⟩:=aa h;refine jb (be rfl y) ?_;refine au ?_;exact jz ((),mt) h []
     .refine au ?_;exact jz ((),1) h []
    .refine au ?_;exact jz ((),1) h []
   .refine au ?_;refine ja (cN [(0,.tmp 77,_)] rfl Ug Ih SI (fX ⟨rfl,trivial⟩) rfl) ?_;refine ja (NH (t1:=159) (t:=Ti) rfl Xy) ?_;refine au ?_;cases h;exact ra
def jt(k:Nat)(a0:Ql):Option (List Int):=
 some ([]:(List Int))
theorem sx(k:Nat)(a0:Ql)(r:(List Int))(h:jt k a0=some r):
 cT Tryz.prog 174 [.rep TZ a0] [] (λ_:Unit=>(bn [.rep Tl r],[])):=by
 unfold jt at h
 replace h:=aY h
 refine cT.of 3 Tryz.func174 rfl Tryz.ntmps174 rfl λS w0=>?_
 refine sr ?_
 refine bx λb1=>?_
 refine cq ?_
 refine nt ?_
 refine sr ?_
 refine cq ?_
 refine nt ?_
 refine cC ?_
 refine bf (eN (t:=Tl) (x:=([]:(List Int))) 2 rfl .nil rfl rfl) ?_
 cases h
 exact ra
def jq(k:Nat)(a0:Qk):Option (List Int):=
 some a0
theorem sf(k:Nat)(a0:Qk)(r:(List Int))(h:jq k a0=some r):
 cT Tryz.prog 175 [.rep TY a0] [] (λ_:Unit=>(bn [.rep Tl r],[])):=by
 unfold jq at h
 replace h:=aY h
 refine cT.of 5 Tryz.func175 rfl Tryz.ntmps175 rfl λS w0=>?_
 refine sr ?_
 refine bx λb1=>?_
 refine au ?_
 refine fl OE ?_
 refine lo eB ?_
 refine au ?_
 cases h
 exact ra
def cg(k:Nat)(a0:ab)(a1:(List Int))(r5:(List Int)):Nat->Int->Option (Except Int Unit)
 |0,_=>none
 |n+1,y6=>
  if y6 < (r5.length:Int) then((aK r5 y6).bind λx8=>
  (bO (0≤x8/\x8 < 5)).bind λ_=>
  (aK a1 x8).bind λe=>
  if(uC 0 a0.2.1)≤e then(some (.error x8)) else((ck (y6+1)).bind λc=>
  cg k a0 a1 r5 n c)) else(some (.ok ()))
def dO(k:Nat)(a0:ab)(a1:(List Int))(a2:Int)(a3:Int):Option Int:=
 bE (α:=Unit) ((eG k k a0 a2 a3).bind λr4=>
 (K3 r4 (λn=>jt k n) (λl=>jq k l)).bind λr5=>
 cg k a0 a1 r5 k 0) (some) λ_=>
 some (-1:Int)
theorem kX{M:Md Tryz.prog}{bm:Nat}{c0 c1 c2 c3 c4 c5:Value}(hK:Kn M bm 0 [c0,c1,c2,c3,c4,c5])(k:Nat)(a0:ab)(a1:(List Int))(a2:Int)(a3:Int)(r:Int)(h:dO k a0 a1 a2 a3=some r):
    bT M 80 [.rep (.mo (Pv bm) [c0,c1,c2,c3,c4,c5] ah) a0,.rep Tr a1,.eq (.int .i64 a2),.eq (.int .i64 a3)] [] (λ_:Unit=>(bn [.eq (.int .i64 r)],[])):=by
  unfold dO at h
  replace h:=aY h
  refine bT.of 33 Tryz.func80 rfl Tryz.ntmps80 rfl λS w0=>?_
  refine bC ?_
  refine ae ?_
  refine aQ rfl rfl rfl (yK rfl rfl) ⟨rfl,trivial⟩ λb1=>?_
  refine GH rfl ?_
  refine bp ?_
  refine aH ?_
  show JC _ _ _ _ _
  refine cF (Z:=Unit) (α:=Unit) (λz3 x2=>[]) (λz3 x2=>[]) (λe=>e=r) h (λe h=>Option.some.inj h) (λK hR h=>?_) (λz3 x2 h=>?_)
  .
    refine bC ?_
    refine ae ?_
    refine iY rfl rfl ?_
    refine iY rfl rfl ?_
    refine iY rfl rfl ?_
    obtain⟨r4,D,h⟩:=aa h
    have E:=mP hK k k a0 a2 a3 r4 D
    refine bU rfl (bb [.tmp 11,.tmp 12,.tmp 13] rfl rfl RV rfl E) ⟨rfl,rfl,rfl,trivial⟩ ?_
    obtain⟨r5,c,h⟩:=aa h
    refine bU rfl (NJ (r:=.rep Tl r5) rfl rfl ya xZ (λn hd=>.agI (sx k n r5 (by rw [hd] at c;exact c))) (λl hd=>.agS (sf k l r5 (by rw [hd] at c;exact c)))) ⟨rfl,trivial⟩ ?_
    refine bU rfl (lI rfl rfl gX) ⟨rfl,trivial⟩ ?_
    refine fM rfl ?_
    refine bp ?_
    refine aH ?_
    show JC _ _ _ _ _
    refine ai ?_
    refine aF (λz7 y6=>[(0,.rep (.mo (Pv bm) [c0,c1,c2,c3,c4,c5] ah) a0),(5,.eq (Pv b1)),(15,.rep Tl r5),(16,.eq (.int .i64 (r5.length:Int))),(17,.eq (.int .i64 y6))]) (λz7 y6=>[.obj b1 82 (.rep Tr a1)]) (cg k a0 a1 r5) k () 0 (λ_=>rfl) h (SE.fin [0] ⟨rfl,rfl,rfl,rfl,rfl,trivial⟩ rfl) (λn z7 y6 h=>?_)
    unfold cg at h
    refine bC ?_
    refine ae ?_
    refine bU rfl (bj rfl) ⟨rfl,rfl,trivial⟩ ?_
    refine bp ?_
    refine aH ?_
    show JC _ _ _ _ _
    refine bC ?_
    refine kl rfl (λhb=>?_) (λhb=>?_)
    . replace h:=dY (vz hb) h
      refine iU ?_
      refine aH ?_
      show JC _ _ _ _ _
      refine bC ?_
      refine ai ?_
      refine bC ?_
      refine ae ?_
      obtain⟨x8,y,h⟩:=aa h
      refine bU rfl (aG (t:=Ti) rfl gX bP y) ⟨rfl,rfl,trivial⟩ ?_
      refine bU rfl (ao (t:=Ti) rfl bP rfl) ⟨rfl,trivial⟩ ?_
      refine xz rfl rfl ?_
      refine bp ?_
      refine aH ?_
      show JC _ _ _ _ _
      refine bC ?_
      refine bD ?_
      refine ge rfl rfl rfl (aP rfl) ⟨rfl,trivial⟩ ?_
      obtain⟨u9,u,h⟩:=aa h
      refine ge rfl rfl rfl (eD rfl E2 bP (ap u).1 (ap u).2) ⟨rfl,rfl,trivial⟩ ?_
      obtain⟨F,s,h⟩:=aa h
      refine xC 0 rfl rfl rfl rfl (oS (t:=Ti) (off:=0) (i:=x8) (N:=5) rfl bP (λ_=>rfl) rfl rfl rfl rfl s) ⟨rfl,trivial⟩ ?_
      refine ge rfl rfl rfl (aP rfl) ⟨rfl,trivial⟩ ?_
      refine ge rfl rfl rfl (mK rfl) ⟨rfl,trivial⟩ ?_
      refine ge rfl rfl rfl (iF rfl iS) ⟨rfl,trivial⟩ ?_
      refine ge rfl rfl rfl (jx 1 false rfl qD rfl rfl) ⟨rfl,trivial⟩ ?_
      refine ge rfl rfl rfl (kA (t:=Ti) rfl bP (hK.sub 1 1 rfl (le_of_ble_eq_true rfl)) rfl rfl) ⟨rfl,trivial⟩ ?_
      refine ge rfl rfl rfl (Jw rfl rfl) ⟨rfl,rfl,trivial⟩ ?_
      refine E8 (by kernel_rfl) cy ?_
      refine bU rfl (i9 rfl) ⟨rfl,rfl,trivial⟩ ?_
      refine bp ?_
      refine aH ?_
      show JC _ _ _ _ _
      refine kl rfl (λhb=>?_) (λhb=>?_)
      . replace h:=dY (vz hb) h
        refine bC ?_
        refine ae ?_
        refine iY rfl rfl ?_
        refine xz rfl rfl ?_
        refine bp ?_
        refine aH ?_
        show JC _ _ _ _ _
        refine cC ?_
        refine kj ?_
        refine jH ?_
        refine jH ?_
        refine kj ?_
        refine jH ?_
        obtain rfl:=hR _ h
        exact aN () [_] 0 ⟨rfl,trivial⟩ rfl
      . replace h:=cz (vA hb) h
        refine iU ?_
        refine fN ?_
        refine aH ?_
        show JC _ _ _ _ _
        refine ae ?_
        obtain⟨x,j,h⟩:=aa h
        refine bU rfl (be rfl j) ⟨rfl,rfl,trivial⟩ ?_
        refine iY rfl rfl ?_
        refine bp ?_
        refine aH ?_
        exact uR ((),x) h (SE.fin [0] ⟨rfl,rfl,rfl,rfl,rfl,trivial⟩ rfl)
    . replace h:=cz (vA hb) h
      refine vW ?_
      refine mf ?_
      refine mf ?_
      refine pr ?_
      refine aH ?_
      exact uR ((),()) h (SE.fin [] trivial rfl)
  .
    refine bC ?_
    refine ae ?_
    refine GH rfl ?_
    refine bp ?_
    refine aH ?_
    show JC _ _ _ _ _
    refine cC ?_
    obtain rfl:=Option.some.inj h
    exact aN () [_] 0 ⟨rfl,trivial⟩ rfl
def cL(k:Nat)(a0:ab)(a1:(List Int))(a2:Int):Nat->((List Int)×Int)->Option (List Int)
 |0,_=>none
 |n+1,y6=>
  if y6.2 < a0.1 then((((eG k k a0 y6.2 a2).bind λc=>
  if Nz c=true then(if a0.2.2.2.1≤(Ue c) then((bO (0≤y6.2/\y6.2 < 5)).bind λ_=>
  some (List.set y6.1 (Int.toNat y6.2) (-1:Int))) else(some y6.1)) else(if¬(Nz c=true) then((bO (0≤y6.2/\y6.2 < 5)).bind λ_=>
  (aK a1 y6.2).bind λl=>
  if 0≤l then((bO (0≤y6.2/\y6.2 < 5)).bind λ_=>
  (aK a1 y6.2).bind λj=>
  (ck (j+1)).bind λh=>
  (bO (0≤y6.2/\y6.2 < 5)).bind λ_=>
  some (List.set y6.1 (Int.toNat y6.2) h)) else((dO k a0 a1 y6.2 a2).bind λr=>
  if 0≤r then((bO (0≤y6.2/\y6.2 < 5)).bind λ_=>
  some (List.set y6.1 (Int.toNat y6.2) 0)) else(some y6.1))) else(some y6.1))):Option ((List Int))).bind λx8=>
  (ck (y6.2+1)).bind λe=>
  cL k a0 a1 a2 n (x8,e)) else(some y6.1)
def iI(k:Nat)(a0:ab)(a1:(List Int))(a2:Int):Option (List Int):=
 ((cL k a0 a1 a2 k (a1,0)):Option ((List Int))).bind λx4=>
 some x4
theorem tu{M:Md Tryz.prog}{bm:Nat}{c0 c1 c2 c3 c4 c5:Value}(hK:Kn M bm 0 [c0,c1,c2,c3,c4,c5])(k:Nat)(a0:ab)(a1:(List Int))(a2:Int)(r:(List Int))(h:iI k a0 a1 a2=some r):
 bT M 78 [.rep (.mo (Pv bm) [c0,c1,c2,c3,c4,c5] ah) a0,.rep Tr a1,I a2] [] (λ_:Unit=>(bn [.rep Tr r],[])):=by
 unfold iI at h
 replace h:=aY h
 refine bT.of 60 Tryz.func78 rfl Tryz.ntmps78 rfl λS w0=>?_
 refine sr ?_
 refine bx λb1=>?_
 refine aQ rfl rfl rfl (aV rfl MG O9) trivial λb2=>?_
 refine nt ?_
 refine sr ?_
 refine fr 1 ?_
 refine lo ko ?_
 refine aQ rfl rfl rfl (aV rfl MG O9) trivial λb3=>?_
 refine aI rfl rfl (aD rfl ko rfl rfl rfl) ⟨rfl,rfl,trivial⟩ ?_
 refine nt ?_
 refine aJ (Z:=Unit) (α:=(List Int)) (λz5 x4=>[(6,Pt b2),(7,Pt b3)]) (λz5 x4=>[.obj b2 82 (.rep Tr [0,0,0,0,0]),.obj b3 82 (.rep Tr x4)]) h (λK h=>?_) (λz5 x4 h=>?_)
 .
  refine au ?_;refine ja (mK rfl) ?_;refine ja (iF rfl iS) ?_;refine ja (jx 1 false rfl ff rfl rfl) ?_;refine ja (kA (t:=Ti) rfl bP (hK.sub 0 1 rfl (le_of_ble_eq_true rfl)) rfl rfl) ?_;refine fM rfl ?_;refine nt (ai (aF (λz7 y6=>[(0,.rep (.mo (Pv bm) [c0,c1,c2,c3,c4,c5] ah) a0),(2,I a2),(4,Pt b1),(6,Pt b2),(7,Pt b3),(16,I a0.1),(17,I y6.2)]) (λz7 y6=>[.obj b1 82 (.rep Tr a1),.obj b2 82 (.rep Tr [0,0,0,0,0]),.obj b3 82 (.rep Tr y6.1)]) (cL k a0 a1 a2) k () (a1,0) (λ_=>rfl) h (SE.fin [1,2,0] ⟨rfl,rfl,rfl,rfl,rfl,rfl,rfl,trivial⟩ rfl) (λn z7 y6 h=>?_)));unfold cL at h;refine sr (jb (bj rfl) ?_);refine au ?_;refine ci h (λh=>?_) (λh=>?_)
  .refine sk (aJ (Z:=Unit) (α:=(List Int)) (λz9 x8=>[(0,.rep (.mo (Pv bm) [c0,c1,c2,c3,c4,c5] ah) a0),(2,I a2),(4,Pt b1),(6,Pt b2),(7,Pt b3),(16,I a0.1),(17,I y6.2)]) (λz9 x8=>[.obj b1 82 (.rep Tr a1),.obj b2 82 (.rep Tr [0,0,0,0,0]),.obj b3 82 (.rep Tr x8)]) h (λK h=>?_) (λz9 x8 h=>?_))
   .refine ai (au ?_);obtain⟨U,F,h⟩:=aa h;refine jc (bb [.tmp 20,.tmp 21,.tmp 22] rfl rfl RV rfl (mP hK k k a0 y6.2 a2 U F)) ?_;refine nt (ai (sr (bU rfl (FG rfl IN (by decide)) ⟨rfl,trivial⟩ ?_)));refine au ?_;refine cv h (λh=>?_) (λh=>?_)
    .refine sr (aQ rfl rfl rfl (aV rfl Ih Qp) trivial λqt=>?_);refine aI rfl rfl (aD rfl P9 trivial rfl rfl) ⟨rfl,rfl,trivial⟩ ?_;refine au ?_;refine bD ?_;refine da (av rfl F7) ?_;refine ea 0 (ak rfl bP iV rfl) ?_;refine dm ?_;refine da (mK rfl) ?_;refine da (iF rfl iS) ?_;refine da (jx 1 false rfl uF rfl rfl) ?_;refine da (kA (t:=Ti) rfl bP (hK.sub 3 1 rfl (le_of_ble_eq_true rfl)) rfl rfl) ?_;refine df cy ?_;refine jb (i9 rfl) ?_;refine nt (ci h (λh=>?_) (λh=>?_))
     .refine ae (mq ?_);obtain⟨mw,j,h⟩:=aa h;refine jb (eD rfl E2 bP (ap j).1 (ap j).2) ?_;refine fr 3 ?_;refine aI rfl rfl (iE (t:=Ti) (off:=0) (i:=y6.2) (N:=5) rfl bP .int rfl rfl rfl rfl (ap j).1 (ap j).2 rfl) ⟨rfl,rfl,trivial⟩ ?_;refine au ?_;exact jz ((),List.set y6.1 (Int.toNat y6.2) (-1:Int)) h [2,3,0]
     .refine au ?_;exact jz ((),y6.1) h [1,2,3]
    .refine sr (bU rfl (NP rfl QO (by decide)) ⟨rfl,trivial⟩ ?_);refine au ?_;refine cw h (λh=>?_) (λh=>?_)
     .refine sr (aQ rfl rfl rfl (aV rfl PZ Vw) trivial λpq=>?_);refine aI rfl rfl (aD rfl T8 trivial rfl rfl) ⟨rfl,rfl,trivial⟩ ?_;refine au ?_;obtain⟨mt,s,h⟩:=aa h;refine jb (eD rfl E2 bP (ap s).1 (ap s).2) ?_;obtain⟨Y,D,h⟩:=aa h;refine fr 1 ?_;refine ka (oS (t:=Ti) (off:=0) (i:=y6.2) (N:=5) rfl bP (λ_=>rfl) rfl rfl rfl rfl D) ?_;refine jb (i9 rfl) ?_;refine nt (ci h (λh=>?_) (λh=>?_))
      .refine ae (au ?_);obtain⟨u16,l,h⟩:=aa h;refine jb (eD rfl E2 bP (ap l).1 (ap l).2) ?_;obtain⟨X,y,h⟩:=aa h;refine ka (oS (t:=Ti) (off:=0) (i:=y6.2) (N:=5) rfl bP (λ_=>rfl) rfl rfl rfl rfl y) ?_;obtain⟨O,x,h⟩:=aa h;refine jb (be rfl x) ?_;obtain⟨mc,e,h⟩:=aa h;refine jb (eD rfl E2 bP (ap e).1 (ap e).2) ?_;refine fr 3 ?_;refine aI rfl rfl (iE (t:=Ti) (off:=0) (i:=y6.2) (N:=5) rfl bP .int rfl rfl rfl rfl (ap e).1 (ap e).2 rfl) ⟨rfl,rfl,trivial⟩ ?_;refine au ?_;exact jz ((),List.set y6.1 (Int.toNat y6.2) O) h [1,3,0]
      .refine au ?_;refine lo ko ?_;refine au ?_;obtain⟨Q,E,h⟩:=aa h;refine bU rfl (bb [.tmp 50,.tmp 51,.tmp 52,.tmp 53] rfl rfl UW rfl (kX hK k a0 a1 y6.2 a2 Q E)) ⟨rfl,rfl,rfl,rfl,trivial⟩ ?_;refine jb (i9 rfl) ?_;refine nt (ci h (λh=>?_) (λh=>?_))
       .refine ae (mq ?_);obtain⟨gw,c,h⟩:=aa h;refine jb (eD rfl E2 bP (ap c).1 (ap c).2) ?_;refine fr 3 ?_;refine aI rfl rfl (iE (t:=Ti) (off:=0) (i:=y6.2) (N:=5) rfl bP .int rfl rfl rfl rfl (ap c).1 (ap c).2 rfl) ⟨rfl,rfl,trivial⟩ ?_;refine au ?_;exact jz ((),List.set y6.1 (Int.toNat y6.2) 0) h [1,3,0]
       .refine au ?_;exact jz ((),y6.1) h [0,2,3]
     .refine au ?_;exact jz ((),y6.1) h [0,1,2]
   .refine ae ?_;obtain⟨J,u,h⟩:=aa h;refine jb (be rfl u) ?_;refine au ?_;exact jz ((),(x8,J)) h [0,1,2]
  .refine au ?_;exact jz ((),y6.1) h [1,2]
 .
  refine sr (fr 1 ?_);refine lo ko ?_;refine fr 1 ?_;refine aI rfl rfl (aD rfl ko rfl rfl rfl) ⟨rfl,rfl,trivial⟩ ?_;refine au ?_;obtain rfl:=Option.some.inj h;exact aN () [.rep Tr x4] 0 ⟨⟨_,_,_,_,_,rfl,(.head _),ko,(kB),rfl⟩,trivial⟩ rfl
def eO(k:Nat)(a0:List Int):Option (List Int):=
 (bO (aZ (length a0))).bind λ_=>some a0
theorem od(k:Nat)(a0:List Int)(r:List Int)(h:eO k a0=some r):
 cT Tryz.prog 41 [.rep Tl a0] [] (λz:Value=>(bn [.eq z],[.sl z 3 Ti r])):=by
 unfold eO at h
 replace h:=aY h
 refine cT.of 8 Tryz.func41 rfl Tryz.ntmps41 rfl λS w0=>?_
 obtain⟨u1,c,h⟩:=aa h
 cases h
 refine sr ?_
 refine cq ?_
 refine nt ?_
 refine bC ?_
 refine sr ?_
 refine mq ?_
 refine aR (Δ:=[]) (F:=_) (λ_ _ _=>aj rfl _) rfl rfl (NL rfl gX) ⟨rfl,rfl,trivial⟩ λb=>?_
 refine nt ?_
 refine kl rfl (λhb=>?_) (λhb=>?_)
 .
  refine sr (cq (nt (rx ?_)));obtain rfl:=b.2 hb;refine bf (SE.nil 3 Ti) ?_;exact aN (.slice none 0 0) [.eq (.slice none 0 0)] 1 ⟨rfl,trivial⟩ rfl
 .
  refine au ?_;refine aQ rfl rfl rfl (fQ (t:=Ti) [] [] rfl rfl cX .nil rfl rfl) trivial λv1=>?_;refine mq ?_;refine cI rfl rfl rfl (bg rfl rfl cX (by simpa using ap c)) ⟨rfl,rfl,trivial⟩ λv2=>?_;refine au ?_;exact aN v2 [.eq v2] 1 ⟨rfl,trivial⟩ rfl
def mU(k:Nat)(a0:Int)(a1:Int)(a2:Bool):Option aC:=
 some (a0,a1,a2)
theorem nQ(k:Nat)(a0:Int)(a1:Int)(a2:Bool)(r:aC)(h:mU k a0 a1 a2=some r):
 cT Tryz.prog 42 [I a0,I a1,.eq (.bool a2)] [] (λ_:Unit=>(bn [.rep aA r],[])):=by
 unfold mU at h
 replace h:=aY h
 refine cT.of 11 Tryz.func42 rfl Tryz.ntmps42 rfl λS w0=>?_
 refine sr ?_
 refine aQ rfl rfl rfl (aV rfl AY Lj) trivial λb1=>?_
 refine au ?_
 refine jc (cN [(0,.tmp 7,_),(1,.tmp 8,_),(2,.tmp 9,_)] rfl Re AY Lc (fX ⟨rfl,rfl,rfl,trivial⟩) rfl) ?_
 refine aI rfl rfl (aD rfl ix trivial rfl rfl) ⟨rfl,rfl,trivial⟩ ?_
 refine nt ?_
 refine cC ?_
 refine bf (c6 (a:=.agg (.pair (I a0) (.pair (I a1) (.eq (.bool a2))))) (a':=.rep aA (a0,a1,a2)) (dZ (.agg (.pair .int (.pair .int .bool))))) ?_
 cases h
 exact aN () [.rep aA (a0,a1,a2)] 0 ⟨⟨_,_,_,_,_,rfl,(.head _),ix,(kB),rfl⟩,trivial⟩ rfl
def jG(k:Nat)(a0:(List aC)):Option ab:=
 (mU k 1 2 true).bind λr2=>
 (mU k 2 1 false).bind λr3=>
 (mU k 3 3 false).bind λr4=>
 (bO (aZ (length [r2,r3,r4]+length a0))).bind λ_=>
 some (4,1,1,2,[[[0,1,2],[3]],[[0,1],[2,3]],[[1,2,3]],[[1,3],[2]]],[r2,r3,r4]++a0)
theorem iP(k:Nat)(a0:(List aC))(r:ab)(h:jG k a0=some r):
 cT Tryz.prog 17 [Rs aA a0] [] (λ_:Unit=>(bn [.rep ah r],[])):=by
 unfold jG at h
 replace h:=aY h
 refine cT.of 24 Tryz.func17 rfl Tryz.ntmps17 rfl λS w0=>?_
 refine sr ?_
 refine aQ rfl rfl rfl (aV rfl km qH) trivial λb1=>?_
 refine au ?_
 obtain⟨r2,l,h⟩:=aa h
 have u:=nQ k 1 2 true r2 l
 refine jc (ax [.const (.int .i64 (1)),.const (.int .i64 (2)),.const (.bool true)] rfl rfl R2 rfl u) ?_
 obtain⟨r3,j,h⟩:=aa h
 have s:=nQ k 2 1 false r3 j
 refine jc (ax [.const (.int .i64 (2)),.const (.int .i64 (1)),.const (.bool false)] rfl rfl R2 rfl s) ?_
 obtain⟨r4,e,h⟩:=aa h
 have n:=nQ k 3 3 false r4 e
 refine jc (ax [.const (.int .i64 (3)),.const (.int .i64 (3)),.const (.bool false)] rfl rfl R2 rfl n) ?_
 refine aQ rfl rfl rfl (fQ (t:=aA) [(.tmp 4,_),(.tmp 5,_),(.tmp 6,_)] [r2,r3,r4] rfl rfl rV (.cons rfl .rep (.cons rfl .rep (.cons rfl .rep .nil))) rfl rfl) ⟨rfl,rfl,rfl,trivial⟩ λv5=>?_
 refine au ?_
 refine jc (aX (t:=Ti) [(.const (.int .i64 (0)),_),(.const (.int .i64 (1)),_),(.const (.int .i64 (2)),_)] [0,1,2] rfl rfl cX (.cons rfl .int (.cons rfl .int (.cons rfl .int .nil))) rfl rfl) ?_
 refine ja (aX (t:=Ti) [(.const (.int .i64 (3)),_)] [3] rfl rfl cX (.cons rfl .int .nil) rfl rfl) ?_
 refine jb (aX (t:=Tl) [(.tmp 8,_),(.tmp 9,_)] [[0,1,2],[3]] rfl rfl kU (.cons rfl .rep (.cons rfl .rep .nil)) rfl rfl) ?_
 refine jb (aX (t:=Ti) [(.const (.int .i64 (0)),_),(.const (.int .i64 (1)),_)] [0,1] rfl rfl cX (.cons rfl .int (.cons rfl .int .nil)) rfl rfl) ?_
 refine jb (aX (t:=Ti) [(.const (.int .i64 (2)),_),(.const (.int .i64 (3)),_)] [2,3] rfl rfl cX (.cons rfl .int (.cons rfl .int .nil)) rfl rfl) ?_
 refine jb (aX (t:=Tl) [(.tmp 11,_),(.tmp 12,_)] [[0,1],[2,3]] rfl rfl kU (.cons rfl .rep (.cons rfl .rep .nil)) rfl rfl) ?_
 refine jc (aX (t:=Ti) [(.const (.int .i64 (1)),_),(.const (.int .i64 (2)),_),(.const (.int .i64 (3)),_)] [1,2,3] rfl rfl cX (.cons rfl .int (.cons rfl .int (.cons rfl .int .nil))) rfl rfl) ?_
 refine ja (aX (t:=Tl) [(.tmp 14,_)] [[1,2,3]] rfl rfl kU (.cons rfl .rep .nil) rfl rfl) ?_
 refine jb (aX (t:=Ti) [(.const (.int .i64 (1)),_),(.const (.int .i64 (3)),_)] [1,3] rfl rfl cX (.cons rfl .int (.cons rfl .int .nil)) rfl rfl) ?_
 refine ja (aX (t:=Ti) [(.const (.int .i64 (2)),_)] [2] rfl rfl cX (.cons rfl .int .nil) rfl rfl) ?_
 refine jb (aX (t:=Tl) [(.tmp 16,_),(.tmp 17,_)] [[1,3],[2]] rfl rfl kU (.cons rfl .rep (.cons rfl .rep .nil)) rfl rfl) ?_
 refine bU rfl (aX (t:=(.slice Tl)) [(.tmp 10,_),(.tmp 13,_),(.tmp 15,_),(.tmp 18,_)] [[[0,1,2],[3]],[[0,1],[2,3]],[[1,2,3]],[[1,3],[2]]] rfl rfl zx (.cons rfl .rep (.cons rfl .rep (.cons rfl .rep (.cons rfl .rep .nil)))) rfl rfl) ⟨rfl,rfl,rfl,rfl,trivial⟩ ?_
 refine au ?_
 obtain⟨u6,c,h⟩:=aa h
 refine cI rfl rfl rfl (bg rfl rfl rV (ap c)) ⟨rfl,rfl,trivial⟩ λv7=>?_
 refine dQ (fV [22] ⟨rfl,trivial⟩) ?_
 refine bU rfl (cN [(0,.const (.int .i64 (4)),_),(1,.const (.int .i64 (1)),_),(2,.const (.int .i64 (1)),_),(3,.const (.int .i64 (2)),_),(4,.tmp 19,_),(5,.tmp 22,_)] rfl wA km qG (fX ⟨rfl,rfl,rfl,rfl,rfl,rfl,trivial⟩) rfl) ⟨rfl,rfl,rfl,rfl,rfl,rfl,trivial⟩ ?_
 refine aI rfl rfl (aD rfl bB trivial rfl rfl) ⟨rfl,rfl,trivial⟩ ?_
 refine nt ?_
 refine cC ?_
 refine bf (c6 (a:=.agg (.pair (I 4) (.pair (I 1) (.pair (I 1) (.pair (I 2) (.pair (.rep (.slice (.slice Tl)) [[[0,1,2],[3]],[[0,1],[2,3]],[[1,2,3]],[[1,3],[2]]]) (Rs aA ([r2,r3,r4]++a0)))))))) (a':=.rep ah (4,1,1,2,[[[0,1,2],[3]],[[0,1],[2,3]],[[1,2,3]],[[1,3],[2]]],[r2,r3,r4]++a0)) (dZ (.agg (.pair .int (.pair .int (.pair .int (.pair .int (.pair .rep .rep)))))))) ?_
 cases h
 exact aN () [.rep ah (4,1,1,2,[[[0,1,2],[3]],[[0,1],[2,3]],[[1,2,3]],[[1,3],[2]]],[r2,r3,r4]++a0)] 0 ⟨⟨_,_,_,_,_,rfl,(.head _),bB,(kB),rfl⟩,trivial⟩ rfl
def dI{σ:Type}(k:Nat)(a0:Int)(a3:Int)(self:Int->Int->σ->Option (Bool×σ)):Nat->(Int×σ)->Option (Except (Bool×σ) (σ))
 |0,_=>none
 |n+1,y5=>
  if y5.1 < a3 then((fC k a0 y5.1).bind λr7=>
  (ck (y5.1+1)).bind λx8=>
  (self r7 x8 y5.2).bind λr9=>
  if¬(r9.1=true) then(some (.error (false,r9.2))) else((ck (y5.1+1)).bind λc=>
  dI k a0 a3 self n (c,r9.2))) else(some (.ok y5.2))
def dN{σ:Type}(k:Nat)(Y:σ->Int->Option (σ×Bool))(a3:Int):Nat->Int->Int->σ->Option (Bool×σ)
 |0,_,_,_=>none
 |m0+1,a0,a1,s0=>
  (Y s0 a0).bind λr1=>
  if¬(r1.2=true) then(some (false,r1.1)) else(bE (α:=σ) (dI k a0 a3 (dN k Y a3 m0) k (a1,r1.1)) (some) λx3=>
  some (true,x3))
theorem um{M:Md Tryz.prog}{σ Z:Type}(E:Z->σ->List D)(l:Nat)(Y:σ->Int->Option (σ×Bool))(k:Nat)(u:Nat)(a3:Int)(j:Nat)(c:Nat)(hY:∀z s p r,Y s p=some r->YT M l [.eq (.int .u8 p)] (E z s) (λz':Z=>(.eq (.bool r.2),E z' r.1))):
 ∀(n:Nat) (a0:Int) (a1:Int) (z0:Z) (s0:σ) (r:Bool×σ),dN k Y a3 n a0 a1 s0=some r->bT M 82 [.eq (.int .u8 a0),I a1,Pt u,Pt j,Pt c] ([.obj u 104 (.eq (.func (.yield l) #[] #[])),.obj j 3 (I a3),.obj c 103 (.eq (.func (.func 82) #[] #[(Pv u),(Pv j),(Pv c)]))]++E z0 s0) (λz:Z=>(bn [.eq (.bool r.1)],[.obj u 104 (.eq (.func (.yield l) #[] #[])),.obj j 3 (I a3),.obj c 103 (.eq (.func (.func 82) #[] #[(Pv u),(Pv j),(Pv c)]))]++E z r.2)):=by
 intro n
 induction n with
 |zero=>intro a0 a1 z0 s0 r h;cases h
 |succ m0 ih=>
  intro a0 a1 z0 s0 r h;rw [dN] at h;replace h:=aY h;refine bT.of 27 Tryz.func82 rfl Tryz.ntmps82 rfl λS w0=>?_;refine au ?_;refine lo Ua ?_;refine mq ?_;obtain⟨r1,U,h⟩:=aa h;refine fr 2 ?_;refine fr 2 ?_;refine fr 2 ?_;refine xw [.obj u 104 (.eq (.func (.yield l) #[] #[])),.obj j 3 (I a3),.obj c 103 (.eq (.func (.func 82) #[] #[(Pv u),(Pv j),(Pv c)]))] rfl rfl rfl (FD [.tmp 10] rfl rfl rfl (hY z0 s0 a0 r1 U)) ⟨rfl,rfl,trivial⟩ λz2=>?_;refine ja (eQ rfl) ?_;refine nt (cw h (λh=>?_) (λh=>?_))
  .refine au ?_;cases h;exact nO z2 [_] ⟨rfl,trivial⟩ rfl
  .refine sk (cF (Z:=Z) (α:=σ) (λz4 x3=>[]) (λz4 x3=>[.obj u 104 (.eq (.func (.yield l) #[] #[])),.obj j 3 (I a3),.obj c 103 (.eq (.func (.func 82) #[] #[(Pv u),(Pv j),(Pv c)]))]++E z4 x3) (λe=>e=r) h (λe h=>Option.some.inj h) (λK hR h=>?_) (λz4 x3 h=>?_))
   .refine au ?_;refine ai (aF (Z:=Z) (α:=Int×σ) (λz6 y5=>[(0,.eq (.int .u8 a0)),(3,Pt j),(4,Pt c),(8,I y5.1)]) (λz6 y5=>[.obj j 3 (I a3),.obj c 103 (.eq (.func (.func 82) #[] #[(Pv u),(Pv j),(Pv c)])),.obj u 104 (.eq (.func (.yield l) #[] #[]))]++E z6 y5.2) (dI k a0 a3 (dN k Y a3 m0)) k z2 (a1,r1.1) (λ_=>rfl) h (gV [.obj u 104 (.eq (.func (.yield l) #[] #[])),.obj j 3 (I a3),.obj c 103 (.eq (.func (.func 82) #[] #[(Pv u),(Pv j),(Pv c)]))] (E z2 r1.1) [1,2,0] ⟨rfl,rfl,rfl,rfl,trivial⟩ rfl) (λn z6 y5 h=>?_));unfold dI at h;refine au ?_;refine lo bP ?_;refine jb (bj rfl) ?_;refine nt (ci h (λh=>?_) (λh=>?_))
    .refine au ?_;refine ai (bC (bD ?_));refine ea 1 (ak rfl IR iV rfl) ?_;refine dm ?_;refine dm ?_;obtain⟨r7,Q,h⟩:=aa h;refine db (ax [.tmp 20,.tmp 21] rfl rfl OH rfl (jo k a0 y5.1 r7 Q)) ?_;refine dm ?_;obtain⟨x8,J,h⟩:=aa h;refine db (be rfl J) ?_;refine df cy ?_;obtain⟨r9,O,h⟩:=aa h;refine fr 1 ?_;refine fr 1 ?_;refine fr 2 ?_;refine xy rfl rfl rfl (ov (fs:=[]) (cs:=[(Pv u),(Pv j),(Pv c)]) (ags:=[.eq (.int .u8 r7),I x8]) [.tmp 22,.tmp 24] rfl rfl UU rfl (ih r7 x8 z6 y5.2 r9 O)) ⟨rfl,rfl,rfl,trivial⟩ λx=>?_;refine ja (eQ rfl) ?_;refine nt (cw h (λh=>?_) (λh=>?_))
     .refine au ?_;obtain rfl:=hR _ h;exact nO x [_] ⟨rfl,trivial⟩ rfl
     .refine au ?_;refine ae (mq ?_);obtain⟨F,y,h⟩:=aa h;refine jb (be rfl y) ?_;refine au ?_;exact uR (x,(F,r9.2)) h (gV [.obj u 104 (.eq (.func (.yield l) #[] #[])),.obj j 3 (I a3),.obj c 103 (.eq (.func (.func 82) #[] #[(Pv u),(Pv j),(Pv c)]))] (E x r9.2) [1,2,0] ⟨rfl,rfl,rfl,rfl,trivial⟩ rfl)
    .refine au ?_;exact uR (z6,y5.2) h (gV [.obj j 3 (I a3),.obj c 103 (.eq (.func (.func 82) #[] #[(Pv u),(Pv j),(Pv c)])),.obj u 104 (.eq (.func (.yield l) #[] #[]))] (E z6 y5.2) [2,0,1] trivial rfl)
   .refine au ?_;cases h;exact nO z4 [_] ⟨rfl,trivial⟩ rfl
def kY{σ:Type}(k:Nat)(Y:σ->Int->Option (σ×Bool))(a1:Int)(s0:σ):Option (σ):=
 (dN k Y a1 k 0 0 s0).bind λr3=>
 some r3.2
theorem qw{M:Md Tryz.prog}{σ Z:Type}(E:Z->σ->List D)(l:Nat)(Y:σ->Int->Option (σ×Bool))(k:Nat)(a1:Int)(c:Nat)(hY:∀z s p r,Y s p=some r->YT M l [.eq (.int .u8 p)] (E z s) (λz':Z=>(.eq (.bool r.2),E z' r.1))):
 ∀(z0:Z) (s0:σ) (r:σ),kY k Y a1 s0=some r->bT M 81 [.eq (.func (.yield l) #[] #[]),Pt c] ([.obj c 3 (I a1)]++E z0 s0) (λz:Z=>(bn [],[.obj c 3 (I a1)]++E z r)):=by
 intro z0 s0 r h
 unfold kY at h
 replace h:=aY h
 refine bT.of 7 Tryz.func81 rfl Tryz.ntmps81 rfl λS w0=>?_
 refine sr ?_
 refine bx λb1=>?_
 refine au ?_
 refine aQ rfl rfl rfl (aV rfl TO Vy) trivial λb2=>?_
 refine au ?_
 refine jc (qj [] [.tmp 2,.tmp 1,.tmp 3] [] [(Pv b1),(Pv c),(Pv b2)] rfl rfl rfl) ?_
 refine aI rfl rfl (aD rfl IR rfl rfl rfl) ⟨rfl,rfl,trivial⟩ ?_
 refine nt ?_
 refine ae ?_
 refine lo IR ?_
 obtain⟨r3,e,h⟩:=aa h
 have j:=um E l Y k b1 a1 c b2 hY k 0 0 z0 s0 r3 e
 refine fr 2 ?_
 refine fr 2 ?_
 refine xy rfl rfl rfl (ov (fs:=[]) (cs:=[(Pv b1),(Pv c),(Pv b2)]) (ags:=[.eq (.int .u8 0),I 0]) [.const (.int .u8 (0)),.const (.int .i64 (0))] rfl rfl UU rfl j) ⟨rfl,rfl,rfl,trivial⟩ λz4=>?_
 refine bp ?_
 refine kh ?_
 refine bf (gV (Γ':=[]) [.obj b1 104 (.eq (.func (.yield l) #[] #[])),.obj c 3 (I a1),.obj b2 103 (.eq (.func (.func 82) #[] #[(Pv b1),(Pv c),(Pv b2)]))] (E z4 r3.2) [1] trivial rfl) ?_
 cases h
 exact nO z4 [] trivial rfl
theorem tz(a0:Int):cT Tryz.prog 51 [I a0] [] (λz:Nat=>(bn [.eq (.func (.func 81) #[] #[(Pv z)])],[.obj z 3 (I a0)])):=by
 refine cT.of 4 Tryz.func51 rfl Tryz.ntmps51 rfl λS w0=>?_;refine sr (bx λz=>?_);refine au ?_;refine ja (qj [] [.tmp 1] [] [(Pv z)] rfl rfl rfl) ?_;refine au ?_;exact aN z [_] 1 ⟨rfl,trivial⟩ rfl
def jp(k:Nat)(a0:Int):Nat->((List Int)×Int)->Option (List Int)
 |0,_=>none
 |n+1,y3=>
  if y3.2 < 5 then((((fD k a0 y3.2).bind λr7=>
  if r7=true then((bO (aZ (length y3.1+length [y3.2]))).bind λ_=>
  some (y3.1++[y3.2])) else(some y3.1)):Option ((List Int))).bind λx5=>
  (ck (y3.2+1)).bind λc=>
  jp k a0 n (x5,c)) else(some y3.1)
def jU(k:Nat)(a0:Int):Option (List Int):=
 ((jp k a0 k (([]:(List Int)),0)):Option ((List Int))).bind λx1=>
 some x1
theorem lD(k:Nat)(a0:Int)(r:(List Int))(h:jU k a0=some r):
 cT Tryz.prog 43 [.eq (.int .u8 a0)] [] (λ_:Unit=>(bn [.rep Tl r],[])):=by
 unfold jU at h
 replace h:=aY h
 refine cT.of 17 Tryz.func43 rfl Tryz.ntmps43 rfl λS w0=>?_
 refine sr ?_
 refine cq ?_
 refine nt ?_
 refine sr ?_
 refine cq ?_
 refine nt ?_
 refine aJ (Z:=Value) (α:=(List Int)) (λz2 x1=>[(3,.eq z2)]) (λz2 x1=>[.sl z2 3 Ti x1]) h (λK h=>?_) (λz2 x1 h=>?_)
 .
  refine sr (fM rfl ?_);refine nt (ai (ia (SE.nil 3 Ti) ?_));refine aF (λz4 y3=>[(0,.eq (.int .u8 a0)),(3,.eq z4),(5,I y3.2)]) (λz4 y3=>[.sl z4 3 Ti y3.1]) (jp k a0) k (.slice none 0 0) (([]:(List Int)),0) (λ_=>rfl) h (SE.fin [0] ⟨rfl,rfl,rfl,trivial⟩ rfl) (λn z4 y3 h=>?_);unfold jp at h;refine sr (jb (bj rfl) ?_);refine au ?_;refine ci h (λh=>?_) (λh=>?_)
  .refine sk (aJ (Z:=Value) (α:=(List Int)) (λz6 x5=>[(0,.eq (.int .u8 a0)),(3,.eq z6),(5,I y3.2)]) (λz6 x5=>[.sl z6 3 Ti x5]) h (λK h=>?_) (λz6 x5 h=>?_))
   .refine ai (au ?_);obtain⟨r7,l,h⟩:=aa h;refine jb (ax [.tmp 8,.tmp 9] rfl rfl KQ rfl (iH k a0 y3.2 r7 l)) ?_;refine nt (cv h (λh=>?_) (λh=>?_))
    .refine ae (au ?_);refine ja (aX (t:=Ti) [(.tmp 12,_)] [y3.2] rfl rfl cX (.cons rfl .int .nil) rfl rfl) ?_;obtain⟨u8,j,h⟩:=aa h;refine cI rfl rfl rfl (bg rfl rfl cX (ap j)) ⟨rfl,rfl,trivial⟩ λv9=>?_;refine au ?_;exact jz (v9,y3.1++[y3.2]) h [0]
    .refine au ?_;exact jz (z4,y3.1) h [0]
   .refine ae ?_;obtain⟨e,c,h⟩:=aa h;refine jb (be rfl c) ?_;refine au ?_;exact jz (z6,(x5,e)) h [0]
  .refine au ?_;exact jz (z4,y3.1) h [0]
 .
  refine sr (mq ?_);refine aq (nt (cC ?_));refine bf (fV [2,3,16] ⟨rfl,rfl,rfl,trivial⟩) ?_;cases h;exact ra
def jM(k:Nat)(a0:(List Int)):Nat->(Int×Int)->Option Int
 |0,_=>none
 |n+1,y4=>
  if y4.2 < (a0.length:Int) then((aK a0 y4.2).bind λx6=>
  (ck (y4.2+1)).bind λx7=>
  jM k a0 n (Kw y4.1 x6,x7)) else(some y4.1)
def nz(k:Nat)(a0:(List Int)):Option Int:=
 if(a0.length:Int) < 1 then(none) else((aK a0 0).bind λx1=>
 ((jM k a0 k (x1,1)):Option (Int)).bind λx2=>
 some x2)
theorem pT(k:Nat)(a0:(List Int))(r:Int)(h:nz k a0=some r):
 cT Tryz.prog 46 [.rep Tl a0] [] (λ_:Unit=>(bn [I r],[])):=by
 unfold nz at h
 replace h:=aY h
 refine cT.of 25 Tryz.func46 rfl Tryz.ntmps46 rfl λS w0=>?_
 refine au ?_
 refine ol gX ?_
 refine jb (bj rfl) ?_
 refine nt ?_
 refine ci h (λh=>?_) (λh=>?_)
 .
  cases h
 .
  refine au ?_;obtain⟨x1,j,h⟩:=aa h;refine jb (aG (t:=Ti) rfl gX bP j) ?_;refine ja (ao (t:=Ti) rfl bP rfl) ?_;refine aq (nt ?_);refine aJ (Z:=Unit) (α:=Int) (λz3 x2=>[(3,I x2)]) (λz3 x2=>[]) h (λK h=>?_) (λz3 x2 h=>?_)
  .refine au ?_;refine ai (aF (λz5 y4=>[(0,.rep Tl a0),(3,I y4.1),(4,I y4.2)]) (λz5 y4=>[]) (jM k a0) k () (x1,1) (λ_=>rfl) h (SE.fin [] ⟨rfl,rfl,rfl,trivial⟩ rfl) (λn z5 y4 h=>?_));unfold jM at h;refine au ?_;refine ol gX ?_;refine jb (bj rfl) ?_;refine nt (ci h (λh=>?_) (λh=>?_))
   .refine au ?_;refine ai (ae (au ?_));obtain⟨x6,e,h⟩:=aa h;refine jb (aG (t:=Ti) rfl gX bP e) ?_;refine ja (ao (t:=Ti) rfl bP rfl) ?_;refine jb (Uk rfl rfl) ?_;refine au ?_;refine ae (mq ?_);obtain⟨x7,c,h⟩:=aa h;refine jb (be rfl c) ?_;refine au ?_;exact jz ((),(Kw y4.1 x6,x7)) h []
   .refine au ?_;exact jz ((),y4.1) h []
  .refine au ?_;cases h;exact ra
def jN(k:Nat)(a0:(List Int)):Nat->(Int×Int)->Option Int
 |0,_=>none
 |n+1,y4=>
  if y4.2 < (a0.length:Int) then((aK a0 y4.2).bind λx6=>
  (ck (y4.2+1)).bind λx7=>
  jN k a0 n (uC y4.1 x6,x7)) else(some y4.1)
def pU(k:Nat)(a0:(List Int)):Option Int:=
 if(a0.length:Int) < 1 then(none) else((aK a0 0).bind λx1=>
 ((jN k a0 k (x1,1)):Option (Int)).bind λx2=>
 some x2)
theorem wj(k:Nat)(a0:(List Int))(r:Int)(h:pU k a0=some r):
 cT Tryz.prog 47 [.rep Tl a0] [] (λ_:Unit=>(bn [I r],[])):=by
 unfold pU at h
 replace h:=aY h
 refine cT.of 25 Tryz.func47 rfl Tryz.ntmps47 rfl λS w0=>?_
 refine au ?_
 refine ol gX ?_
 refine jb (bj rfl) ?_
 refine nt ?_
 refine ci h (λh=>?_) (λh=>?_)
 .
  cases h
 .
  refine au ?_;obtain⟨x1,j,h⟩:=aa h;refine jb (aG (t:=Ti) rfl gX bP j) ?_;refine ja (ao (t:=Ti) rfl bP rfl) ?_;refine aq (nt ?_);refine aJ (Z:=Unit) (α:=Int) (λz3 x2=>[(3,I x2)]) (λz3 x2=>[]) h (λK h=>?_) (λz3 x2 h=>?_)
  .refine au ?_;refine ai (aF (λz5 y4=>[(0,.rep Tl a0),(3,I y4.1),(4,I y4.2)]) (λz5 y4=>[]) (jN k a0) k () (x1,1) (λ_=>rfl) h (SE.fin [] ⟨rfl,rfl,rfl,trivial⟩ rfl) (λn z5 y4 h=>?_));unfold jN at h;refine au ?_;refine ol gX ?_;refine jb (bj rfl) ?_;refine nt (ci h (λh=>?_) (λh=>?_))
   .refine au ?_;refine ai (ae (au ?_));obtain⟨x6,e,h⟩:=aa h;refine jb (aG (t:=Ti) rfl gX bP e) ?_;refine ja (ao (t:=Ti) rfl bP rfl) ?_;refine jb (Jw rfl rfl) ?_;refine au ?_;refine ae (mq ?_);obtain⟨x7,c,h⟩:=aa h;refine jb (be rfl c) ?_;refine au ?_;exact jz ((),(uC y4.1 x6,x7)) h []
   .refine au ?_;exact jz ((),y4.1) h []
  .refine au ?_;cases h;exact ra
def gB(k:Nat):Nat->((List Int)×Int×Int)->Option (List Int)
 |0,_=>none
 |n+1,y2=>
  if y2.2.1 < y2.2.2 then((aK y2.1 y2.2.2).bind λx4=>
  (aK y2.1 y2.2.1).bind λx5=>
  (aK y2.1 y2.2.1).bind λx6=>
  (aK (List.set y2.1 (Int.toNat y2.2.1) x4) y2.2.2).bind λx7=>
  (ck (y2.2.1+1)).bind λx8=>
  (ck (y2.2.2 - 1)).bind λx9=>
  gB k n (List.set (List.set y2.1 (Int.toNat y2.2.1) x4) (Int.toNat y2.2.2) x5,x8,x9)) else(some y2.1)
def lz(k:Nat)(a0:(List Int)):Option (List Int):=
 (ck ((a0.length:Int) - 1)).bind λx1=>
 gB k k (a0,0,x1)
theorem rT(k:Nat)(a0:(List Int))(c:Value)(r:(List Int))(h:lz k a0=some r):
 cT Tryz.prog 49 [.eq c] [.sl c 3 Ti a0] (λ_:Unit=>(bn [],[.sl c 3 Ti r])):=by
 unfold lz at h
 replace h:=aY h
 refine cT.of 28 Tryz.func49 rfl Tryz.ntmps49 rfl λS w0=>?_
 refine au ?_
 refine ka (ou rfl rfl gX) ?_
 obtain⟨x1,mc,h⟩:=aa h
 refine jb (eC rfl mc) ?_
 refine au ?_
 refine ai ?_
 refine aF (λz3 y2=>[(0,.eq c),(2,I y2.2.1),(3,I y2.2.2)]) (λz3 y2=>[.sl c 3 Ti y2.1]) (gB k) k () (a0,0,x1) (λ_=>rfl) h (SE.fin [0] ⟨rfl,rfl,rfl,trivial⟩ rfl) (λn z3 y2 h=>?_)
 unfold gB at h
 refine au ?_
 refine jb (bj rfl) ?_
 refine nt ?_
 refine ci h (λh=>?_) (λh=>?_)
 .
  refine au ?_;refine ai (ng ?_);refine aO rfl rfl rfl (aP rfl) ⟨rfl,trivial⟩ ?_;refine aO rfl rfl rfl (aP rfl) ⟨rfl,trivial⟩ ?_;refine aO rfl rfl rfl (aP rfl) ⟨rfl,trivial⟩ ?_;refine aO rfl rfl rfl (aP rfl) ⟨rfl,trivial⟩ ?_;refine aO rfl rfl rfl (aP rfl) ⟨rfl,trivial⟩ ?_;refine aO rfl rfl rfl (aP rfl) ⟨rfl,trivial⟩ ?_;obtain⟨x4,D,h⟩:=aa h;refine eZ 0 rfl rfl rfl rfl (cM (t:=Ti) rfl gX bP D) ⟨rfl,rfl,trivial⟩ ?_;refine eZ 0 rfl rfl rfl rfl (ig (i:=Int.toNat y2.2.2) (off:=0) rfl bP (λ_=>rfl) rfl (dR D).2.2 rfl) ⟨rfl,trivial⟩ ?_;refine aO rfl rfl rfl (aP rfl) ⟨rfl,trivial⟩ ?_;refine aO rfl rfl rfl (aP rfl) ⟨rfl,trivial⟩ ?_;obtain⟨x5,y,h⟩:=aa h;refine eZ 0 rfl rfl rfl rfl (cM (t:=Ti) rfl gX bP y) ⟨rfl,rfl,trivial⟩ ?_;refine eZ 0 rfl rfl rfl rfl (ig (i:=Int.toNat y2.2.1) (off:=0) rfl bP (λ_=>rfl) rfl (dR y).2.2 rfl) ⟨rfl,trivial⟩ ?_;obtain⟨x6,x,h⟩:=aa h;refine eZ 0 rfl rfl rfl rfl (cM (t:=Ti) rfl gX bP x) ⟨rfl,rfl,trivial⟩ ?_;refine nj 13 [true,true,false,false,true,true,true,true,true,true,true,true,true] [27] [] [] rfl (by kernel_rfl) (by kernel_rfl) (by kernel_rfl) cy (λvs hv hB=>?_);obtain⟨w0,Ym,rfl,Y⟩:=an hv;obtain⟨w1,Yl,rfl,X⟩:=an Y;obtain⟨w2,Yk,rfl,U⟩:=an X;obtain⟨w3,Yj,rfl,Q⟩:=an U;obtain⟨w4,Yi,rfl,O⟩:=an Q;obtain⟨w5,Yh,rfl,M⟩:=an O;obtain⟨w6,Yg,rfl,J⟩:=an M;obtain⟨w7,Yf,rfl,F⟩:=an J;obtain⟨w8,Ye,rfl,E⟩:=an F;obtain⟨w9,qt,rfl,s⟩:=an E;obtain⟨Yd,pq,rfl,l⟩:=an s;obtain⟨zM,mw,rfl,j⟩:=an l;obtain⟨zz,mt,rfl,e⟩:=an j;obtain rfl:=jY e;refine⟨[0],[.sl c 3 Ti y2.1],by kernel_rfl,by decide,?_⟩;refine qL rfl rfl (iD (i:=Int.toNat y2.2.1) rfl bP rfl (o8 x) rfl .int rfl) ⟨rfl,rfl,trivial⟩ (by kernel_rfl) ?_;obtain⟨x7,u,h⟩:=aa h;refine po rfl rfl rfl rfl (cM (t:=Ti) rfl gX bP u) ⟨rfl,rfl,trivial⟩ (by kernel_rfl) ?_;refine qL rfl rfl (iD (i:=Int.toNat y2.2.2) rfl bP rfl (o8 u) rfl .int rfl) ⟨rfl,rfl,trivial⟩ (by kernel_rfl) ?_;refine uQ ?_;refine bf (SE.fin (Γ':=[(0,.eq c),(2,I y2.2.1),(3,I y2.2.2)]) (Δ':=[.sl c 3 Ti (List.set (List.set y2.1 (Int.toNat y2.2.1) x4) (Int.toNat y2.2.2) x5)]) [0] ⟨rfl,rfl,rfl,trivial⟩ rfl) ?_;refine au ?_;refine ae (mq ?_);obtain⟨x8,gw,h⟩:=aa h;refine jb (be rfl gw) ?_;refine mq ?_;obtain⟨x9,Z,h⟩:=aa h;refine jb (eC rfl Z) ?_;refine au ?_;exact jz ((),(List.set (List.set y2.1 (Int.toNat y2.2.1) x4) (Int.toNat y2.2.2) x5,x8,x9)) h [0]
 .
  refine au ?_;refine kh ?_;cases h;exact aN () [] 1 trivial rfl
def lS(k:Nat)(a0:Int):Option Int:=
 (jU k a0).bind λr1=>
 some (r1.length:Int)
theorem pA(k:Nat)(a0:Int)(r:Int)(h:lS k a0=some r):
 cT Tryz.prog 57 [.eq (.int .u8 a0)] [] (λ_:Unit=>(bn [I r],[])):=by
 unfold lS at h
 replace h:=aY h
 refine cT.of 6 Tryz.func57 rfl Tryz.ntmps57 rfl λS w0=>?_
 refine au ?_
 obtain⟨r1,c,h⟩:=aa h
 have e:=lD k a0 r1 c
 refine ja (ax [.tmp 3] rfl rfl RZ rfl e) ?_
 refine ol gX ?_
 refine au ?_
 cases h
 exact ra
def o0(k:Nat)(a0:Int)(a1:Int):Option Int:=
 (lS k a0).bind λr1=>
 (lS k a1).bind λr2=>
 (ck (r1 - r2)).bind λx3=>
 some x3
theorem vp(k:Nat)(a0:Int)(a1:Int)(c:Nat)(r:Int)(h:o0 k a0 a1=some r):
 cT Tryz.prog 85 [.eq (.int .u8 a0),.eq (.int .u8 a1),Pt c] [.obj c 107 (.eq (.func (.func 57) #[] #[]))] (λ_:Unit=>(bn [I r],[.obj c 107 (.eq (.func (.func 57) #[] #[]))])):=by
 unfold o0 at h
 replace h:=aY h
 refine cT.of 13 Tryz.func85 rfl Tryz.ntmps85 rfl λS w0=>?_
 refine au ?_
 refine bD ?_
 refine ea 0 (ak rfl Qb iV rfl) ?_
 refine dm ?_
 obtain⟨r1,l,h⟩:=aa h
 have s:=pA k a0 r1 l
 refine db (vK (fs:=[]) (cs:=[]) (ags:=[.eq (.int .u8 a0)]) [.tmp 7] rfl rfl U0 rfl s) ?_
 refine ea 0 (ak rfl Qb iV rfl) ?_
 refine dm ?_
 refine df cy ?_
 obtain⟨r2,j,h⟩:=aa h
 have n:=pA k a1 r2 j
 refine jb (vK (fs:=[]) (cs:=[]) (ags:=[.eq (.int .u8 a1)]) [.tmp 10] rfl rfl U0 rfl n) ?_
 obtain⟨x3,e,h⟩:=aa h
 refine jb (eC rfl e) ?_
 refine au ?_
 cases h
 exact aN () [_] 1 ⟨rfl,trivial⟩ rfl
def gC(k:Nat)(a0:(List Int)):Nat->(Int×Int)->Option Int
 |0,_=>none
 |n+1,y4=>
  if y4.2 < (a0.length:Int) then((((aK a0 y4.2).bind λx8=>
  (o0 k x8 y4.1).bind λr9=>
  if r9 < 0 then((aK a0 y4.2).bind λe=>
  some e) else(some y4.1)):Option (Int)).bind λx6=>
  (ck (y4.2+1)).bind λc=>
  gC k a0 n (x6,c)) else(some y4.1)
def lA(k:Nat)(a0:(List Int)):Option Int:=
 if(a0.length:Int) < 1 then(none) else((aK a0 0).bind λx1=>
 ((gC k a0 k (x1,1)):Option (Int)).bind λx2=>
 some x2)
theorem rU(k:Nat)(a0:(List Int))(c_a1_0:Nat)(r:Int)(h:lA k a0=some r):
 cT Tryz.prog 84 [.rep (.slice (.int .u8)) a0,.eq (.func (.func 85) #[] #[(Pv c_a1_0)])] [.obj c_a1_0 107 (.eq (.func (.func 57) #[] #[]))] (λ_:Unit=>(bn [.eq (.int .u8 r)],[.obj c_a1_0 107 (.eq (.func (.func 57) #[] #[]))])):=by
 unfold lA at h
 replace h:=aY h
 refine cT.of 33 Tryz.func84 rfl Tryz.ntmps84 rfl λS w0=>?_
 refine au ?_
 refine ol AM ?_
 refine jb (bj rfl) ?_
 refine nt ?_
 refine ci h (λh=>?_) (λh=>?_)
 .
  cases h
 .
  refine au ?_;obtain⟨x1,u,h⟩:=aa h;refine jb (aG (t:=(.int .u8)) rfl AM rO u) ?_;refine ja (ao (t:=(.int .u8)) rfl rO rfl) ?_;refine aq (nt ?_);refine aJ (Z:=Unit) (α:=Int) (λz3 x2=>[(5,.eq (.int .u8 x2))]) (λz3 x2=>[.obj c_a1_0 107 (.eq (.func (.func 57) #[] #[]))]) h (λK h=>?_) (λz3 x2 h=>?_)
  .refine au ?_;refine ai (aF (λz5 y4=>[(0,.rep (.slice (.int .u8)) a0),(1,.eq (.func (.func 85) #[] #[(Pv c_a1_0)])),(5,.eq (.int .u8 y4.1)),(6,I y4.2)]) (λz5 y4=>[.obj c_a1_0 107 (.eq (.func (.func 57) #[] #[]))]) (gC k a0) k () (x1,1) (λ_=>rfl) h (SE.fin [0] ⟨rfl,rfl,rfl,rfl,trivial⟩ rfl) (λn z5 y4 h=>?_));unfold gC at h;refine au ?_;refine ol AM ?_;refine jb (bj rfl) ?_;refine nt (ci h (λh=>?_) (λh=>?_))
   .refine sk (aJ (Z:=Unit) (α:=Int) (λz7 x6=>[(0,.rep (.slice (.int .u8)) a0),(1,.eq (.func (.func 85) #[] #[(Pv c_a1_0)])),(5,.eq (.int .u8 x6)),(6,I y4.2)]) (λz7 x6=>[.obj c_a1_0 107 (.eq (.func (.func 57) #[] #[]))]) h (λK h=>?_) (λz7 x6 h=>?_))
    .refine ai (au ?_);obtain⟨x8,s,h⟩:=aa h;refine jb (aG (t:=(.int .u8)) rfl AM rO s) ?_;refine ja (ao (t:=(.int .u8)) rfl rO rfl) ?_;refine mq ?_;obtain⟨r9,x,h⟩:=aa h;refine kc (vK (fs:=[]) (cs:=[(Pv c_a1_0)]) (ags:=[.eq (.int .u8 x8),.eq (.int .u8 y4.1)]) [.tmp 24,.tmp 25] rfl rfl WS rfl (vp k x8 y4.1 c_a1_0 r9 x)) ?_;refine jb (bj rfl) ?_;refine nt (ci h (λh=>?_) (λh=>?_))
     .refine ae (au ?_);obtain⟨l,e,h⟩:=aa h;refine jb (aG (t:=(.int .u8)) rfl AM rO e) ?_;refine ja (ao (t:=(.int .u8)) rfl rO rfl) ?_;refine au ?_;exact jz ((),l) h [0]
     .refine au ?_;exact jz ((),y4.1) h [0]
    .refine ae (mq ?_);obtain⟨j,c,h⟩:=aa h;refine jb (be rfl c) ?_;refine au ?_;exact jz ((),(x6,j)) h [0]
   .refine au ?_;exact jz ((),y4.1) h [0]
  .refine au ?_;cases h;exact aN () [_] 1 ⟨rfl,trivial⟩ rfl
def sw(k:Nat)(a0:(List Int)):Option Int:=
 (lA k a0).bind λr2=>
 some r2
theorem yd(k:Nat)(a0:(List Int))(r:Int)(h:sw k a0=some r):
 cT Tryz.prog 56 [.rep (.slice (.int .u8)) a0,.eq (.func (.func 57) #[] #[])] [] (λ_:Unit=>(bn [.eq (.int .u8 r)],[])):=by
 unfold sw at h
 replace h:=aY h
 refine cT.of 8 Tryz.func56 rfl Tryz.ntmps56 rfl λS w0=>?_
 refine sr ?_
 refine bx λb1=>?_
 refine au ?_
 refine ja (qj [] [.tmp 3] [] [(Pv b1)] rfl rfl rfl) ?_
 obtain⟨r2,c,h⟩:=aa h
 have e:=rU k a0 b1 r2 c
 refine kb (ax [.tmp 5,.tmp 6] rfl rfl WT rfl e) ?_
 refine au ?_
 cases h
 exact ra
def dL(k:Nat)(a0:(List (List Int)))(a1:(List (List Int))):Nat->Int->Option (Except Bool Unit)
 |0,_=>none
 |n+1,y3=>
  if y3 < (a0.length:Int) then((aK a0 y3).bind λx5=>
  (aK a1 y3).bind λx6=>
  (fK k x5 x6).bind λr7=>
  if¬(r7=true) then(some (.error false)) else((ck (y3+1)).bind λx8=>
  dL k a0 a1 n x8)) else(some (.ok ()))
def fR(k:Nat)(a0:(List (List Int)))(a1:(List (List Int))):Option Bool:=
 if¬((a0.length:Int)=(a1.length:Int)) then(some false) else(bE (α:=Unit) (dL k a0 a1 k 0) (some) λ_=>
 some true)
theorem kF(k:Nat)(a0:(List (List Int)))(a1:(List (List Int)))(r:Bool)(h:fR k a0 a1=some r):
 cT Tryz.prog 23 [.rep (.slice Tl) a0,.rep (.slice Tl) a1] [] (λ_:Unit=>(bn [.eq (.bool r)],[])):=by
 unfold fR at h
 replace h:=aY h
 refine cT.of 27 Tryz.func23 rfl Tryz.ntmps23 rfl λS w0=>?_
 refine au ?_
 refine ol nR ?_
 refine mq ?_
 refine ol nR ?_
 refine jb (dG rfl) ?_
 refine nt ?_
 refine cn h (λh=>?_) (λh=>?_)
 .
  refine au ?_;cases h;exact ra
 .
  refine sk (cF (Z:=Unit) (α:=Unit) (λz2 x1=>[]) (λz2 x1=>[]) (λe=>e=r) h (λe h=>Option.some.inj h) (λK hR h=>?_) (λz2 x1 h=>?_))
  .refine au ?_;refine ai (aF (λz4 y3=>[(0,.rep (.slice Tl) a0),(1,.rep (.slice Tl) a1),(5,I y3)]) (λz4 y3=>[]) (dL k a0 a1) k () 0 (λ_=>rfl) h (SE.fin [] ⟨rfl,rfl,rfl,trivial⟩ rfl) (λn z4 y3 h=>?_));unfold dL at h;refine au ?_;refine ol nR ?_;refine jb (bj rfl) ?_;refine nt (ci h (λh=>?_) (λh=>?_))
   .refine au ?_;refine ai (bC (bD ?_));refine dm ?_;refine dm ?_;obtain⟨x5,l,h⟩:=aa h;refine db (aG (t:=Tl) rfl nR eB l) ?_;refine da (ao (t:=Tl) rfl eB rfl) ?_;refine dm ?_;refine dm ?_;obtain⟨x6,j,h⟩:=aa h;refine db (aG (t:=Tl) rfl nR eB j) ?_;refine da (ao (t:=Tl) rfl eB rfl) ?_;refine df cy ?_;obtain⟨r7,s,h⟩:=aa h;refine jb (ax [.tmp 20,.tmp 24] rfl rfl OJ rfl (ju k x5 x6 r7 s)) ?_;refine ja (eQ rfl) ?_;refine nt (cw h (λh=>?_) (λh=>?_))
    .refine au ?_;obtain rfl:=hR _ h;exact ra
    .refine au ?_;refine ae (mq ?_);obtain⟨x8,c,h⟩:=aa h;refine jb (be rfl c) ?_;refine au ?_;exact jz ((),x8) h []
   .refine au ?_;exact jz ((),()) h []
  .refine au ?_;cases h;exact ra
def nH(k:Nat)(a0:(List Int)):Option bH:=
 some (a0,0,1)
theorem wT(k:Nat)(a0:(List Int))(r:bH)(h:nH k a0=some r):
 cT Tryz.prog 6 [.rep Tl a0] [] (λz:Nat=>(bn [Pt z],[.obj z 61 (.agg (.pair (.rep Tl r.1) (.pair (I r.2.1) (.eq (.int .u64 r.2.2)))))])):=by
 unfold nH at h
 replace h:=aY h
 refine cT.of 6 Tryz.func6 rfl Tryz.ntmps6 rfl λS w0=>?_
 refine au ?_
 refine jb (cN [(0,.tmp 3,_),(2,.const (.int .u64 (1)),_)] rfl Wc V4 Vu (fX ⟨rfl,rfl,trivial⟩) rfl) ?_
 refine aQ rfl rfl rfl (yK rfl trivial) ⟨rfl,trivial⟩ λb1=>?_
 refine au ?_
 cases h
 exact aN b1 [Pt b1] 1 ⟨rfl,trivial⟩ rfl
def j7(k:Nat)(a0:(List Int)):Option (List Int):=
 (bO (aZ (length ([]:(List Int))+length a0))).bind λ_=>
 some (([]:(List Int))++a0)
theorem vu(k:Nat)(a0:(List Int))(r:(List Int))(h:j7 k a0=some r):
 cT Tryz.prog 60 [.rep Tl a0] [] (λz:Value=>(bn [.eq z],[.sl z 3 Ti r])):=by
 unfold j7 at h
 replace h:=aY h
 refine cT.of 6 Tryz.func60 rfl Tryz.ntmps60 rfl λS w0=>?_
 refine au ?_
 refine aQ rfl rfl rfl (fQ (t:=Ti) [] ([]:(List Int)) rfl rfl cX .nil rfl rfl) trivial λv1=>?_
 refine mq ?_
 obtain⟨u2,c,h⟩:=aa h
 refine cI rfl rfl rfl (bg rfl rfl cX (ap c)) ⟨rfl,rfl,trivial⟩ λv3=>?_
 refine au ?_
 cases h
 exact aN v3 [.eq v3] 1 ⟨rfl,trivial⟩ rfl
def eg(k:Nat)(a0:(List (List Int))):Nat->((List (List Int))×Int)->Option (List (List Int))
 |0,_=>none
 |n+1,y3=>
  if y3.2 < (a0.length:Int) then((aK a0 y3.2).bind λx5=>
  (j7 k x5).bind λr6=>
  (bO (aZ (length y3.1+length [r6]))).bind λ_=>
  (ck (y3.2+1)).bind λc=>
  eg k a0 n (y3.1++[r6],c)) else(some y3.1)
def il(k:Nat)(a0:(List (List Int))):Option (List (List Int)):=
 ((eg k a0 k (([]:(List (List Int))),0)):Option ((List (List Int)))).bind λx1=>
 some x1
theorem oI(k:Nat)(a0:(List (List Int)))(r:(List (List Int)))(h:il k a0=some r):
 cT Tryz.prog 27 [.rep (.slice Tl) a0] [] (λz:Value=>(bn [.eq z],[.sl z 28 Tl r])):=by
 unfold il at h
 replace h:=aY h
 refine cT.of 20 Tryz.func27 rfl Tryz.ntmps27 rfl λS w0=>?_
 refine sr ?_
 refine cq ?_
 refine nt ?_
 refine sr ?_
 refine cq ?_
 refine nt ?_
 refine aJ (Z:=Value) (α:=(List (List Int))) (λz2 x1=>[(3,.eq z2)]) (λz2 x1=>[.sl z2 28 Tl x1]) h (λK h=>?_) (λz2 x1 h=>?_)
 .
  refine au ?_;refine ai (ia (SE.nil 28 Tl) ?_);refine aF (λz4 y3=>[(0,.rep (.slice Tl) a0),(3,.eq z4),(4,I y3.2)]) (λz4 y3=>[.sl z4 28 Tl y3.1]) (eg k a0) k (.slice none 0 0) (([]:(List (List Int))),0) (λ_=>rfl) h (SE.fin [0] ⟨rfl,rfl,rfl,trivial⟩ rfl) (λn z4 y3 h=>?_);unfold eg at h;refine au ?_;refine ol nR ?_;refine jb (bj rfl) ?_;refine nt (ci h (λh=>?_) (λh=>?_))
  .refine au ?_;refine ai (ae (au ?_));obtain⟨x5,j,h⟩:=aa h;refine jb (aG (t:=Tl) rfl nR eB j) ?_;refine ja (ao (t:=Tl) rfl eB rfl) ?_;obtain⟨r6,s,h⟩:=aa h;refine aQ rfl rfl rfl (ax [.tmp 15] rfl rfl W5 rfl (vu k x5 r6 s)) ⟨rfl,trivial⟩ λv7=>?_;refine dQ (fV [16] ⟨rfl,trivial⟩) ?_;refine ja (aX (t:=Tl) [(.tmp 16,_)] [r6] rfl rfl kU (.cons rfl .rep .nil) rfl rfl) ?_;obtain⟨u8,l,h⟩:=aa h;refine cI rfl rfl rfl (bg rfl rfl kU (ap l)) ⟨rfl,rfl,trivial⟩ λv9=>?_;refine au ?_;refine ae (mq ?_);obtain⟨e,c,h⟩:=aa h;refine jb (be rfl c) ?_;refine au ?_;exact jz (v9,(y3.1++[r6],e)) h [0]
  .refine au ?_;exact jz (z4,y3.1) h [0]
 .
  refine au ?_;cases h;exact aN z2 [.eq z2] 1 ⟨rfl,trivial⟩ rfl
def ee(k:Nat)(a0:ab):Nat->((List (List (List Int)))×Int)->Option (List (List (List Int)))
 |0,_=>none
 |n+1,y9=>
  if y9.2 < (a0.2.2.2.2.1.length:Int) then((aK a0.2.2.2.2.1 y9.2).bind λh=>
  (il k h).bind λc=>
  (bO (aZ (length y9.1+length [c]))).bind λ_=>
  (ck (y9.2+1)).bind λe=>
  ee k a0 n (y9.1++[c],e)) else(some y9.1)
def ik(k:Nat)(a0:ab):Option ab:=
 (bO (aZ (length ([]:(List aC))+length a0.2.2.2.2.2))).bind λ_=>
 ((ee k a0 k (([]:(List (List (List Int)))),0)):Option ((List (List (List Int))))).bind λx7=>
 some (a0.1,a0.2.1,a0.2.2.1,a0.2.2.2.1,x7,([]:(List aC))++a0.2.2.2.2.2)
theorem oH(k:Nat)(a0:ab)(r:ab)(h:ik k a0=some r):
 cT Tryz.prog 9 [.rep ah a0] [] (λz:Value=>(bn [.agg (.pair (I r.1) (.pair (I r.2.1) (.pair (I r.2.2.1) (.pair (I r.2.2.2.1) (.pair (.rep (.slice (.slice Tl)) r.2.2.2.2.1) (.eq z))))))],[.sl z 27 aA r.2.2.2.2.2])):=by
 unfold ik at h
 replace h:=aY h
 refine cT.of 30 Tryz.func9 rfl Tryz.ntmps9 rfl λS w0=>?_
 refine sr ?_
 refine bx λb1=>?_
 refine aQ rfl rfl rfl (aV rfl km qH) trivial λb2=>?_
 refine au ?_
 refine fl co ?_
 refine fr 1 ?_
 refine lo fp ?_
 refine au ?_
 refine aQ rfl rfl rfl (fQ (t:=aA) [] ([]:(List aC)) rfl rfl rV .nil rfl rfl) trivial λv3=>?_
 refine fl dA ?_
 refine fr 1 ?_
 refine lo jw ?_
 obtain⟨u4,E,h⟩:=aa h
 refine fr 1 ?_
 refine cI rfl rfl rfl (bg rfl rfl rV (ap E)) ⟨rfl,rfl,trivial⟩ λv5=>?_
 refine fl co ?_
 refine fr 1 ?_
 refine aI rfl rfl (aD rfl fp rfl rfl rfl) ⟨rfl,rfl,trivial⟩ ?_
 refine fl dA ?_
 refine fr 1 ?_
 refine nf λo6=>?_
 refine fr 1 ?_
 refine aI rfl rfl (aD rfl jw o6 rfl rfl) ⟨rfl,rfl,trivial⟩ ?_
 refine nt ?_
 refine aJ (Z:=Value) (α:=(List (List (List Int)))) (λz8 x7=>[(1,Pt b1),(2,Pt b2)]) (λz8 x7=>[.obj b1 25 (.agg (.pair (I a0.1) (.pair (I a0.2.1) (.pair (I a0.2.2.1) (.pair (I a0.2.2.2.1) (.pair (.eq z8) (.eq v5))))))),.sl z8 45 (.slice Tl) x7,.sl v5 27 aA (([]:(List aC))++a0.2.2.2.2.2),.obj b2 25 (.agg (.pair (I 0) (.pair (I 0) (.pair (I 0) (.pair (I 0) (.pair (.eq (.slice none 0 0)) (.eq (.slice none 0 0))))))))]) h (λK h=>?_) (λz8 x7 h=>?_)
 .
  refine au ?_;refine ai (ia (SE.nil 45 (.slice Tl)) ?_);refine cJ 1 rfl ?_;refine ia (c6 (a:=.agg (.pair (.rep Ti a0.1) (.pair (.rep Ti a0.2.1) (.pair (.rep Ti a0.2.2.1) (.pair (.rep Ti a0.2.2.2.1) (.pair (.eq (.slice none 0 0)) (.eq v5))))))) (a':=.agg (.pair (I a0.1) (.pair (I a0.2.1) (.pair (I a0.2.2.1) (.pair (I a0.2.2.2.1) (.pair (.eq (.slice none 0 0)) (.eq v5))))))) (AE.agg (AE.pair AE.int (AE.pair AE.int (AE.pair AE.int (AE.pair AE.int AE.rfl)))))) ?_;refine aF (λc y9=>[(1,Pt b1),(2,Pt b2),(3,.rep (.slice (.slice Tl)) a0.2.2.2.2.1),(4,I y9.2)]) (λc y9=>[.obj b1 25 (.agg (.pair (I a0.1) (.pair (I a0.2.1) (.pair (I a0.2.2.1) (.pair (I a0.2.2.2.1) (.pair (.eq c) (.eq v5))))))),.sl c 45 (.slice Tl) y9.1,.sl v5 27 aA (([]:(List aC))++a0.2.2.2.2.2),.obj b2 25 (.agg (.pair (I 0) (.pair (I 0) (.pair (I 0) (.pair (I 0) (.pair (.eq (.slice none 0 0)) (.eq (.slice none 0 0))))))))]) (ee k a0) k (.slice none 0 0) (([]:(List (List (List Int)))),0) (λ_=>rfl) h (SE.fin [0,1,2,3] ⟨rfl,rfl,rfl,rfl,trivial⟩ rfl) (λn c y9 h=>?_);unfold ee at h;refine au ?_;refine ol pJ ?_;refine jb (bj rfl) ?_;refine nt (ci h (λh=>?_) (λh=>?_))
  .refine au ?_;refine ai (bD ?_);refine da (av rfl co) ?_;refine ea 0 (ak rfl fp iV rfl) ?_;refine dm ?_;refine dm ?_;obtain⟨y,l,h⟩:=aa h;refine db (aG (t:=(.slice Tl)) rfl pJ kT l) ?_;refine da (ao (t:=(.slice Tl)) rfl kT rfl) ?_;obtain⟨e,u,h⟩:=aa h;refine da (vU (ax [.tmp 24] rfl rfl Vh rfl (oI k y e u))) ?_;refine da (aX (t:=(.slice Tl)) [(.tmp 25,_)] [e] rfl rfl zx (.cons rfl .rep .nil) rfl rfl) ?_;refine df cy ?_;obtain⟨F,s,h⟩:=aa h;refine fr 1 ?_;refine cI rfl rfl rfl (bg rfl rfl zx (ap s)) ⟨rfl,rfl,trivial⟩ λD=>?_;refine fl co ?_;refine nf λo15=>?_;refine fr 1 ?_;refine aI rfl rfl (aD rfl fp o15 rfl rfl) ⟨rfl,rfl,trivial⟩ ?_;refine au ?_;refine ae (mq ?_);obtain⟨x,j,h⟩:=aa h;refine jb (be rfl j) ?_;refine au ?_;exact jz (D,(y9.1++[e],x)) h [0,1,2,3]
  .refine au ?_;exact jz (c,y9.1) h [0,1,2,3]
 .
  refine sr (lo bB ?_);refine fr 3 ?_;refine aI rfl rfl (aD rfl bB trivial rfl rfl) ⟨rfl,rfl,trivial⟩ ?_;refine nt (cC (aL 2 rfl ?_));refine bf (gU (off:=4) [] trivial rfl rfl) ?_;refine bf (SE.fin (Γ':=[(2,_)]) [2,0,1] ⟨rfl,trivial⟩ rfl) ?_;cases h;exact aN v5 [.agg (.pair (I a0.1) (.pair (I a0.2.1) (.pair (I a0.2.2.1) (.pair (I a0.2.2.2.1) (.pair (.rep (.slice (.slice Tl)) x7) (.eq v5))))))] 1 ⟨⟨_,_,_,_,_,rfl,(.tail _ (.head _)),bB,(kB),rfl⟩,trivial⟩ rfl
def jf(k:Nat)(a0:bH):Option (Int×bH):=
 ((if a0.2.1 < (a0.1.length:Int) then((aK a0.1 a0.2.1).bind λx3=>
 some (IntKind.u64.wrap ((IntKind.u64.wrap ((IntKind.u64.wrap (a0.2.2 * 6364136223846793005))+1442695040888963407))+(IntKind.u64.wrap ((IntKind.u64.wrap x3) * 2862933555777941757))))) else(some (IntKind.u64.wrap ((IntKind.u64.wrap (a0.2.2 * 6364136223846793005))+1442695040888963407)))):Option (Int)).bind λx1=>
 (ck (a0.2.1+1)).bind λx4=>
 some (ji .u64 (uA .u64 (IntKind.u64.wrap ((uA .u64 x1 (ji .u64 x1 29)) * 2685821657736338717)) (ji .u64 (IntKind.u64.wrap ((uA .u64 x1 (ji .u64 x1 29)) * 2685821657736338717)) 32)) 8,(a0.1,x4,x1))
theorem uw(k:Nat)(a0:bH)(c:Nat)(r:Int×bH)(h:jf k a0=some r):
 cT Tryz.prog 59 [Pt c] [.obj c 61 (.agg (.pair (.rep Tl a0.1) (.pair (I a0.2.1) (.eq (.int .u64 a0.2.2)))))] (λ_:Unit=>(bn [.eq (.int .u64 r.1)],[.obj c 61 (.agg (.pair (.rep Tl r.2.1) (.pair (I r.2.2.1) (.eq (.int .u64 r.2.2.2)))))])):=by
 unfold jf at h
 replace h:=aY h
 refine cT.of 67 Tryz.func59 rfl Tryz.ntmps59 rfl λS w0=>?_
 refine au ?_
 refine ja (cY rfl) ?_
 refine fl uE ?_
 refine lo G1 ?_
 refine jb (Ei rfl) ?_
 refine jb (JB rfl) ?_
 refine ja (cY rfl) ?_
 refine fl uE ?_
 refine aI rfl rfl (aD rfl G1 rfl rfl rfl) ⟨rfl,rfl,trivial⟩ ?_
 refine nt ?_
 refine aJ (Z:=Unit) (α:=Int) (λz2 x1=>[(0,Pt c)]) (λz2 x1=>[.obj c 61 (.agg (.pair (.rep Tl a0.1) (.pair (I a0.2.1) (.eq (.int .u64 x1)))))]) h (λK h=>?_) (λz2 x1 h=>?_)
 .
  refine bC (bD ?_);refine dm ?_;refine da (cY rfl) ?_;refine da (av rfl Am) ?_;refine ea 0 (ak rfl bP iV rfl) ?_;refine dm ?_;refine da (cY rfl) ?_;refine da (av rfl KI) ?_;refine ea 0 (ak rfl eB iV rfl) ?_;refine da (lI rfl rfl gX) ?_;refine df cy ?_;refine jb (bj rfl) ?_;refine nt (ci h (λh=>?_) (λh=>?_))
  .refine bD ?_;refine dm ?_;refine dm ?_;refine da (cY rfl) ?_;refine da (av rfl uE) ?_;refine ea 0 (ak rfl G1 iV rfl) ?_;refine dm ?_;refine da (cY rfl) ?_;refine da (av rfl KI) ?_;refine ea 0 (ak rfl eB iV rfl) ?_;refine dm ?_;refine da (cY rfl) ?_;refine da (av rfl Am) ?_;refine ea 0 (ak rfl bP iV rfl) ?_;obtain⟨x3,j,h⟩:=aa h;refine db (aG (t:=Ti) rfl gX bP j) ?_;refine da (ao (t:=Ti) rfl bP rfl) ?_;refine da (ue rfl U3 VX) ?_;refine db (Ei rfl) ?_;refine db (JB rfl) ?_;refine df cy ?_;refine ja (cY rfl) ?_;refine fl uE ?_;refine aI rfl rfl (aD rfl G1 rfl rfl rfl) ⟨rfl,rfl,trivial⟩ ?_;refine au ?_;exact jz ((),IntKind.u64.wrap ((IntKind.u64.wrap ((IntKind.u64.wrap (a0.2.2 * 6364136223846793005))+1442695040888963407))+(IntKind.u64.wrap ((IntKind.u64.wrap x3) * 2862933555777941757)))) h [0]
  .refine au ?_;exact jz ((),IntKind.u64.wrap ((IntKind.u64.wrap (a0.2.2 * 6364136223846793005))+1442695040888963407)) h [0]
 .
  refine au ?_;refine ja (cY rfl) ?_;refine fl Am ?_;refine lo bP ?_;obtain⟨x4,e,h⟩:=aa h;refine jb (be rfl e) ?_;refine ja (cY rfl) ?_;refine fl Am ?_;refine aI rfl rfl (aD rfl bP rfl rfl rfl) ⟨rfl,rfl,trivial⟩ ?_;refine au ?_;refine bD ?_;refine dm ?_;refine da (cY rfl) ?_;refine da (av rfl uE) ?_;refine ea 0 (ak rfl G1 iV rfl) ?_;refine dm ?_;refine da (cY rfl) ?_;refine da (av rfl uE) ?_;refine ea 0 (ak rfl G1 iV rfl) ?_;refine ge rfl rfl rfl (wG rfl (by decide)) ⟨rfl,rfl,trivial⟩ ?_;refine df cy ?_;refine jb (Qd rfl) ?_;refine au ?_;refine jb (Ei rfl) ?_;refine au ?_;refine bU rfl (wG rfl (by decide)) ⟨rfl,rfl,trivial⟩ ?_;refine jb (Qd rfl) ?_;refine bU rfl (wG rfl (by decide)) ⟨rfl,rfl,trivial⟩ ?_;refine au ?_;cases h;exact aN () [_] 1 ⟨rfl,trivial⟩ rfl
def bY(k:Nat)(a0:bH)(a1:Int):Option (Int×bH):=
 if a1 < 1 then(some (0,(a0.1,a0.2.1,a0.2.2))) else((jf k (a0.1,a0.2.1,a0.2.2)).bind λr1=>
 (ck (a1+1)).bind λx2=>
 (bO ((IntKind.u64.wrap x2)≠0)).bind λ_=>
 (ck (Int.tmod r1.1 (IntKind.u64.wrap x2))).bind λx4=>
 some (x4,(r1.2.1,r1.2.2.1,r1.2.2.2)))
theorem cf(k:Nat)(a0:bH)(c:Nat)(a1:Int)(r:Int×bH)(h:bY k a0 a1=some r):
 cT Tryz.prog 25 [Pt c,I a1] [.obj c 61 (.agg (.pair (.rep Tl a0.1) (.pair (I a0.2.1) (.eq (.int .u64 a0.2.2)))))] (λ_:Unit=>(bn [I r.1],[.obj c 61 (.agg (.pair (.rep Tl r.2.1) (.pair (I r.2.2.1) (.eq (.int .u64 r.2.2.2)))))])):=by
 unfold bY at h
 replace h:=aY h
 refine cT.of 14 Tryz.func25 rfl Tryz.ntmps25 rfl λS w0=>?_
 refine au ?_
 refine jb (bj rfl) ?_
 refine nt ?_
 refine ci h (λh=>?_) (λh=>?_)
 .
  refine au ?_;cases h;exact aN () [_] 1 ⟨rfl,trivial⟩ rfl
 .
  refine au ?_;obtain⟨r1,n,h⟩:=aa h;refine ka (ax [.tmp 7] rfl rfl W6 rfl (uw k (a0.1,a0.2.1,a0.2.2) c r1 n)) ?_;refine mq ?_;obtain⟨x2,j,h⟩:=aa h;refine jb (be rfl j) ?_;refine ja (ue rfl U3 VX) ?_;obtain⟨u3,l,h⟩:=aa h;refine jb (Uj rfl (ap l)) ?_;obtain⟨x4,e,h⟩:=aa h;refine ja (BO rfl VX U3 e) ?_;refine au ?_;cases h;exact aN () [_] 1 ⟨rfl,trivial⟩ rfl
def eR(k:Nat)(a0:bH)(a1:Int):Option (Bool×bH):=
 (ck (a1 - 1)).bind λx1=>
 (bY k (a0.1,a0.2.1,a0.2.2) x1).bind λr2=>
 some (decide (r2.1=0),(r2.2.1,r2.2.2.1,r2.2.2.2))
theorem iQ(k:Nat)(a0:bH)(c:Nat)(a1:Int)(r:Bool×bH)(h:eR k a0 a1=some r):
 cT Tryz.prog 26 [Pt c,I a1] [.obj c 61 (.agg (.pair (.rep Tl a0.1) (.pair (I a0.2.1) (.eq (.int .u64 a0.2.2)))))] (λ_:Unit=>(bn [.eq (.bool r.1)],[.obj c 61 (.agg (.pair (.rep Tl r.2.1) (.pair (I r.2.2.1) (.eq (.int .u64 r.2.2.2)))))])):=by
 unfold eR at h
 replace h:=aY h
 refine cT.of 10 Tryz.func26 rfl Tryz.ntmps26 rfl λS w0=>?_
 refine au ?_
 obtain⟨x1,e,h⟩:=aa h
 refine jb (eC rfl e) ?_
 obtain⟨r2,j,h⟩:=aa h
 have l:=cf k (a0.1,a0.2.1,a0.2.2) c x1 r2 j
 refine kb (ax [.tmp 5,.tmp 7] rfl rfl vy rfl l) ?_
 refine jb (iG rfl) ?_
 refine au ?_
 cases h
 exact aN () [_] 1 ⟨rfl,trivial⟩ rfl
def iR(k:Nat)(a0:bH)(a1:ab):Option (aC×bH):=
 (ck (a1.1 - 1)).bind λx3=>
 (bY k (a0.1,a0.2.1,a0.2.2) x3).bind λr4=>
 (bY k (r4.2.1,r4.2.2.1,r4.2.2.2) (a1.2.2.2.2.1.length:Int)).bind λr5=>
 (eR k (r5.2.1,r5.2.2.1,r5.2.2.2) 2).bind λr6=>
 some ((r4.1,r5.1,r6.1),(r6.2.1,r6.2.2.1,r6.2.2.2))
theorem pB(k:Nat)(a0:bH)(c:Nat)(a1:ab)(r:aC×bH)(h:iR k a0 a1=some r):
 cT Tryz.prog 8 [Pt c,.rep ah a1] [.obj c 61 (.agg (.pair (.rep Tl a0.1) (.pair (I a0.2.1) (.eq (.int .u64 a0.2.2)))))] (λ_:Unit=>(bn [.rep aA r.1],[.obj c 61 (.agg (.pair (.rep Tl r.2.1) (.pair (I r.2.2.1) (.eq (.int .u64 r.2.2.2)))))])):=by
 unfold iR at h
 replace h:=aY h
 refine cT.of 18 Tryz.func8 rfl Tryz.ntmps8 rfl λS w0=>?_
 refine sr ?_
 refine bx λb1=>?_
 refine aQ rfl rfl rfl (aV rfl AY Lj) trivial λb2=>?_
 refine au ?_
 refine rA [1,2,3,5,6,7,8,10,0,4,9,11,12,13] (by kernel_rfl) ?_
 refine aO rfl rfl rfl (av rfl ff) ⟨rfl,trivial⟩ ?_
 refine eZ 1 rfl rfl rfl rfl (ak rfl bP iV rfl) ⟨rfl,trivial⟩ ?_
 obtain⟨x3,E,h⟩:=aa h
 refine aO rfl rfl rfl (eC rfl E) ⟨rfl,rfl,trivial⟩ ?_
 refine aO rfl rfl rfl (aP rfl) ⟨rfl,trivial⟩ ?_
 refine aO rfl rfl rfl (av rfl co) ⟨rfl,trivial⟩ ?_
 refine eZ 1 rfl rfl rfl rfl (ak rfl fp iV rfl) ⟨rfl,trivial⟩ ?_
 refine aO rfl rfl rfl (lI rfl rfl pJ) ⟨rfl,trivial⟩ ?_
 refine aO rfl rfl rfl (aP rfl) ⟨rfl,trivial⟩ ?_
 refine aO rfl rfl rfl (aP rfl) ⟨rfl,trivial⟩ ?_
 refine nj 9 [true,true,true,false,false,false,false,false,true] [9,14] [1] [.obj b1 25 (.rep ah a1)] rfl (by kernel_rfl) (by kernel_rfl) (by kernel_rfl) cy (λvs hv hB=>?_)
 obtain⟨w0,qt,rfl,D⟩:=an hv
 obtain⟨w1,pq,rfl,y⟩:=an D
 obtain⟨w2,mw,rfl,x⟩:=an y
 obtain⟨w3,mt,rfl,u⟩:=an x
 obtain⟨w4,mc,rfl,s⟩:=an u
 obtain⟨w5,gw,rfl,n⟩:=an s
 obtain⟨w6,Z,rfl,l⟩:=an n
 obtain⟨w7,Y,rfl,j⟩:=an l
 obtain⟨w8,X,rfl,e⟩:=an j
 obtain rfl:=jY e
 refine⟨[1,0,2],[.obj b2 27 (.agg (.pair (I 0) (.pair (I 0) (.eq (.bool false))))),.obj c 61 (.agg (.pair (.rep Tl a0.1) (.pair (I a0.2.1) (.eq (.int .u64 a0.2.2)))))],by kernel_rfl,by decide,?_⟩
 obtain⟨r4,M,h⟩:=aa h
 have U:=cf k (a0.1,a0.2.1,a0.2.2) c x3 r4 M
 refine lw 1 rfl ?_
 refine po rfl rfl rfl rfl (ax [.tmp 5,.tmp 8] rfl rfl vy rfl U) ⟨rfl,rfl,trivial⟩ (by kernel_rfl) ?_
 obtain⟨r5,J,h⟩:=aa h
 have Q:=cf k (r4.2.1,r4.2.2.1,r4.2.2.2) c (a1.2.2.2.2.1.length:Int) r5 J
 refine po rfl rfl rfl rfl (ax [.tmp 10,.tmp 13] rfl rfl vy rfl Q) ⟨rfl,rfl,trivial⟩ (by kernel_rfl) ?_
 refine xu (by kernel_rfl) ?_
 obtain⟨r6,F,h⟩:=aa h
 have O:=iQ k (r5.2.1,r5.2.2.1,r5.2.2.2) c 2 r6 F
 refine fr 1 ?_
 refine kb (ax [.tmp 15,.const (.int .i64 (2))] rfl rfl OI rfl O) ?_
 refine jc (cN [(0,.tmp 9,_),(1,.tmp 14,_),(2,.tmp 16,_)] rfl Re AY Lc (fX ⟨rfl,rfl,rfl,trivial⟩) rfl) ?_
 refine fr 2 ?_
 refine aI rfl rfl (aD rfl ix trivial rfl rfl) ⟨rfl,rfl,trivial⟩ ?_
 refine nt ?_
 refine cC ?_
 refine bf (c6 (a:=.agg (.pair (I r4.1) (.pair (I r5.1) (.eq (.bool r6.1))))) (a':=.rep aA (r4.1,r5.1,r6.1)) (dZ (.agg (.pair .int (.pair .int .bool))))) ?_
 refine bf (SE.fin (Γ':=[(4,_)]) [1,0,2] ⟨rfl,trivial⟩ rfl) ?_
 cases h
 exact aN () [.rep aA (r4.1,r5.1,r6.1)] 1 ⟨⟨_,_,_,_,_,rfl,(.tail _ (.head _)),ix,(kB),rfl⟩,trivial⟩ rfl
def jh(k:Nat)(a0:bH)(a1:Au):Option (aC×bH):=
 (ck (a1.1 - 1)).bind λx3=>
 (bY k (a0.1,a0.2.1,a0.2.2) x3).bind λr4=>
 (bY k (r4.2.1,r4.2.2.1,r4.2.2.2) (a1.2.2.2.2.1.length:Int)).bind λr5=>
 (eR k (r5.2.1,r5.2.2.1,r5.2.2.2) 2).bind λr6=>
 some ((r4.1,r5.1,r6.1),(r6.2.1,r6.2.2.1,r6.2.2.2))
theorem uy(k:Nat)(a0:bH)(c:Nat)(a1:Au)(r:aC×bH)(h:jh k a0 a1=some r):
 cT Tryz.prog 8 [Pt c,.rep Fq a1] [.obj c 61 (.agg (.pair (.rep Tl a0.1) (.pair (I a0.2.1) (.eq (.int .u64 a0.2.2)))))] (λ_:Unit=>(bn [.rep aA r.1],[.obj c 61 (.agg (.pair (.rep Tl r.2.1) (.pair (I r.2.2.1) (.eq (.int .u64 r.2.2.2)))))])):=by
 unfold jh at h
 replace h:=aY h
 refine cT.of 18 Tryz.func8 rfl Tryz.ntmps8 rfl λS w0=>?_
 refine sr ?_
 refine bx λb1=>?_
 refine aQ rfl rfl rfl (aV rfl AY Lj) trivial λb2=>?_
 refine au ?_
 refine rA [1,2,3,5,6,7,8,10,0,4,9,11,12,13] (by kernel_rfl) ?_
 refine aO rfl rfl rfl (av rfl ff) ⟨rfl,trivial⟩ ?_
 refine eZ 1 rfl rfl rfl rfl (ak rfl bP iV rfl) ⟨rfl,trivial⟩ ?_
 obtain⟨x3,E,h⟩:=aa h
 refine aO rfl rfl rfl (eC rfl E) ⟨rfl,rfl,trivial⟩ ?_
 refine aO rfl rfl rfl (aP rfl) ⟨rfl,trivial⟩ ?_
 refine aO rfl rfl rfl (av rfl co) ⟨rfl,trivial⟩ ?_
 refine eZ 1 rfl rfl rfl rfl (ak rfl fp iV rfl) ⟨rfl,trivial⟩ ?_
 refine aO rfl rfl rfl (lI rfl rfl pJ) ⟨rfl,trivial⟩ ?_
 refine aO rfl rfl rfl (aP rfl) ⟨rfl,trivial⟩ ?_
 refine aO rfl rfl rfl (aP rfl) ⟨rfl,trivial⟩ ?_
 refine nj 9 [true,true,true,false,false,false,false,false,true] [9,14] [1] [.obj b1 25 (.rep Fq a1)] rfl (by kernel_rfl) (by kernel_rfl) (by kernel_rfl) cy (λvs hv hB=>?_)
 obtain⟨w0,qt,rfl,D⟩:=an hv
 obtain⟨w1,pq,rfl,y⟩:=an D
 obtain⟨w2,mw,rfl,x⟩:=an y
 obtain⟨w3,mt,rfl,u⟩:=an x
 obtain⟨w4,mc,rfl,s⟩:=an u
 obtain⟨w5,gw,rfl,n⟩:=an s
 obtain⟨w6,Z,rfl,l⟩:=an n
 obtain⟨w7,Y,rfl,j⟩:=an l
 obtain⟨w8,X,rfl,e⟩:=an j
 obtain rfl:=jY e
 refine⟨[1,0,2],[.obj b2 27 (.agg (.pair (I 0) (.pair (I 0) (.eq (.bool false))))),.obj c 61 (.agg (.pair (.rep Tl a0.1) (.pair (I a0.2.1) (.eq (.int .u64 a0.2.2)))))],by kernel_rfl,by decide,?_⟩
 obtain⟨r4,M,h⟩:=aa h
 have U:=cf k (a0.1,a0.2.1,a0.2.2) c x3 r4 M
 refine lw 1 rfl ?_
 refine po rfl rfl rfl rfl (ax [.tmp 5,.tmp 8] rfl rfl vy rfl U) ⟨rfl,rfl,trivial⟩ (by kernel_rfl) ?_
 obtain⟨r5,J,h⟩:=aa h
 have Q:=cf k (r4.2.1,r4.2.2.1,r4.2.2.2) c (a1.2.2.2.2.1.length:Int) r5 J
 refine po rfl rfl rfl rfl (ax [.tmp 10,.tmp 13] rfl rfl vy rfl Q) ⟨rfl,rfl,trivial⟩ (by kernel_rfl) ?_
 refine xu (by kernel_rfl) ?_
 obtain⟨r6,F,h⟩:=aa h
 have O:=iQ k (r5.2.1,r5.2.2.1,r5.2.2.2) c 2 r6 F
 refine fr 1 ?_
 refine kb (ax [.tmp 15,.const (.int .i64 (2))] rfl rfl OI rfl O) ?_
 refine jc (cN [(0,.tmp 9,_),(1,.tmp 14,_),(2,.tmp 16,_)] rfl Re AY Lc (fX ⟨rfl,rfl,rfl,trivial⟩) rfl) ?_
 refine fr 2 ?_
 refine aI rfl rfl (aD rfl ix trivial rfl rfl) ⟨rfl,rfl,trivial⟩ ?_
 refine nt ?_
 refine cC ?_
 refine bf (c6 (a:=.agg (.pair (I r4.1) (.pair (I r5.1) (.eq (.bool r6.1))))) (a':=.rep aA (r4.1,r5.1,r6.1)) (dZ (.agg (.pair .int (.pair .int .bool))))) ?_
 refine bf (SE.fin (Γ':=[(4,_)]) [1,0,2] ⟨rfl,trivial⟩ rfl) ?_
 cases h
 exact aN () [.rep aA (r4.1,r5.1,r6.1)] 1 ⟨⟨_,_,_,_,_,rfl,(.tail _ (.head _)),ix,(kB),rfl⟩,trivial⟩ rfl
def gr(k:Nat)(a0:bH)(a1:Int)(a2:Int):Option (Int×bH):=
 (ck (a2 - a1)).bind λx1=>
 (bY k (a0.1,a0.2.1,a0.2.2) x1).bind λr2=>
 (ck (a1+r2.1)).bind λx3=>
 some (x3,(r2.2.1,r2.2.2.1,r2.2.2.2))
theorem j6(k:Nat)(a0:bH)(c:Nat)(a1:Int)(a2:Int)(r:Int×bH)(h:gr k a0 a1 a2=some r):
 cT Tryz.prog 86 [Pt c,I a1,I a2] [.obj c 61 (.agg (.pair (.rep Tl a0.1) (.pair (I a0.2.1) (.eq (.int .u64 a0.2.2)))))] (λ_:Unit=>(bn [I r.1],[.obj c 61 (.agg (.pair (.rep Tl r.2.1) (.pair (I r.2.2.1) (.eq (.int .u64 r.2.2.2)))))])):=by
 unfold gr at h
 replace h:=aY h
 refine cT.of 14 Tryz.func86 rfl Tryz.ntmps86 rfl λS w0=>?_
 refine au ?_
 obtain⟨x1,j,h⟩:=aa h
 refine jb (eC rfl j) ?_
 obtain⟨r2,l,h⟩:=aa h
 have n:=cf k (a0.1,a0.2.1,a0.2.2) c x1 r2 l
 refine kb (ax [.tmp 8,.tmp 11] rfl rfl vy rfl n) ?_
 obtain⟨x3,e,h⟩:=aa h
 refine jb (be rfl e) ?_
 refine au ?_
 cases h
 exact aN () [_] 1 ⟨rfl,trivial⟩ rfl
def iL(k:Nat)(a0:bH)(a1:(List Int)):Option (Int×bH):=
 (ck ((a1.length:Int) - 1)).bind λx1=>
 (bY k (a0.1,a0.2.1,a0.2.2) x1).bind λr2=>
 (aK a1 r2.1).bind λx3=>
 some (x3,(r2.2.1,r2.2.2.1,r2.2.2.2))
theorem mV(k:Nat)(a0:bH)(c:Nat)(a1:(List Int))(r:Int×bH)(h:iL k a0 a1=some r):
 cT Tryz.prog 87 [Pt c,.rep Tl a1] [.obj c 61 (.agg (.pair (.rep Tl a0.1) (.pair (I a0.2.1) (.eq (.int .u64 a0.2.2)))))] (λ_:Unit=>(bn [I r.1],[.obj c 61 (.agg (.pair (.rep Tl r.2.1) (.pair (I r.2.2.1) (.eq (.int .u64 r.2.2.2)))))])):=by
 unfold iL at h
 replace h:=aY h
 refine cT.of 13 Tryz.func87 rfl Tryz.ntmps87 rfl λS w0=>?_
 refine au ?_
 refine ol gX ?_
 obtain⟨x1,j,h⟩:=aa h
 refine jb (eC rfl j) ?_
 obtain⟨r2,l,h⟩:=aa h
 have n:=cf k (a0.1,a0.2.1,a0.2.2) c x1 r2 l
 refine kb (ax [.tmp 6,.tmp 9] rfl rfl vy rfl n) ?_
 obtain⟨x3,e,h⟩:=aa h
 refine jb (aG (t:=Ti) rfl gX bP e) ?_
 refine ja (ao (t:=Ti) rfl bP rfl) ?_
 refine au ?_
 cases h
 exact aN () [_] 1 ⟨rfl,trivial⟩ rfl
def eF(k:Nat)(a1:Int):Nat->((List Int)×Int×Int×(List Int)×Int)->Option ((List Int)×(List Int)×Int×Int)
 |0,_=>none
 |n+1,y3=>
  if y3.2.2.2.2 < a1 then((bY k (y3.1,y3.2.1,y3.2.2.1) y3.2.2.2.2).bind λr5=>
  (bO (aZ (length y3.2.2.2.1+length [y3.2.2.2.2]))).bind λ_=>
  (aK (y3.2.2.2.1++[y3.2.2.2.2]) r5.1).bind λx8=>
  (aK (y3.2.2.2.1++[y3.2.2.2.2]) y3.2.2.2.2).bind λx9=>
  (aK (List.set (y3.2.2.2.1++[y3.2.2.2.2]) (Int.toNat y3.2.2.2.2) x8) r5.1).bind λe=>
  (ck (y3.2.2.2.2+1)).bind λc=>
  eF k a1 n (r5.2.1,r5.2.2.1,r5.2.2.2,List.set (List.set (y3.2.2.2.1++[y3.2.2.2.2]) (Int.toNat y3.2.2.2.2) x8) (Int.toNat r5.1) y3.2.2.2.2,c)) else(some (y3.2.2.2.1,y3.1,y3.2.1,y3.2.2.1))
def iM(k:Nat)(a0:bH)(a1:Int):Option ((List Int)×bH):=
 ((eF k a1 k (a0.1,a0.2.1,a0.2.2,([]:(List Int)),0)):Option ((List Int)×(List Int)×Int×Int)).bind λx1=>
 some (x1.1,(x1.2.1,x1.2.2.1,x1.2.2.2))
theorem tG(k:Nat)(a0:bH)(c:Nat)(a1:Int)(r:(List Int)×bH)(h:iM k a0 a1=some r):
 cT Tryz.prog 100 [Pt c,I a1] [.obj c 61 (.agg (.pair (.rep Tl a0.1) (.pair (I a0.2.1) (.eq (.int .u64 a0.2.2)))))] (λ_:Unit=>(bn [.rep Tl r.1],[.obj c 61 (.agg (.pair (.rep Tl r.2.1) (.pair (I r.2.2.1) (.eq (.int .u64 r.2.2.2)))))])):=by
 unfold iM at h
 replace h:=aY h
 refine cT.of 32 Tryz.func100 rfl Tryz.ntmps100 rfl λS w0=>?_
 refine sr ?_
 refine cq ?_
 refine nt ?_
 refine sr ?_
 refine cq ?_
 refine nt ?_
 refine aJ (Z:=Value) (α:=(List Int)×(List Int)×Int×Int) (λz2 x1=>[(5,.eq z2)]) (λz2 x1=>[.sl z2 3 Ti x1.1,.obj c 61 (.agg (.pair (.rep Tl x1.2.1) (.pair (I x1.2.2.1) (.eq (.int .u64 x1.2.2.2)))))]) h (λK h=>?_) (λz2 x1 h=>?_)
 .
  refine au ?_;refine ai (ia (SE.nil 3 Ti) ?_);refine aF (λz4 y3=>[(0,Pt c),(1,I a1),(5,.eq z4),(6,I y3.2.2.2.2)]) (λz4 y3=>[.obj c 61 (.agg (.pair (.rep Tl y3.1) (.pair (I y3.2.1) (.eq (.int .u64 y3.2.2.1))))),.sl z4 3 Ti y3.2.2.2.1]) (eF k a1) k (.slice none 0 0) (a0.1,a0.2.1,a0.2.2,([]:(List Int)),0) (λ_=>rfl) h (SE.fin [1,0] ⟨rfl,rfl,rfl,rfl,trivial⟩ rfl) (λn z4 y3 h=>?_);unfold eF at h;refine au ?_;refine jb (bj rfl) ?_;refine nt (ci h (λh=>?_) (λh=>?_))
  .refine au ?_;refine ai (au ?_);obtain⟨r5,y,h⟩:=aa h;refine kb (ax [.tmp 13,.tmp 14] rfl rfl vy rfl (cf k (y3.1,y3.2.1,y3.2.2.1) c y3.2.2.2.2 r5 y)) ?_;refine au ?_;refine ja (aX (t:=Ti) [(.tmp 17,_)] [y3.2.2.2.2] rfl rfl cX (.cons rfl .int .nil) rfl rfl) ?_;obtain⟨u6,x,h⟩:=aa h;refine fr 1 ?_;refine cI rfl rfl rfl (bg rfl rfl cX (ap x)) ⟨rfl,rfl,trivial⟩ λv7=>?_;refine au ?_;refine ae (au ?_);obtain⟨x8,l,h⟩:=aa h;refine kb (cM (t:=Ti) rfl gX bP l) ?_;refine ka (ig (i:=Int.toNat r5.1) (off:=0) rfl bP (λ_=>rfl) rfl (dR l).2.2 rfl) ?_;refine mq ?_;obtain⟨x9,j,h⟩:=aa h;refine kb (cM (t:=Ti) rfl gX bP j) ?_;refine aI rfl rfl (iD (i:=Int.toNat y3.2.2.2.2) rfl bP rfl (o8 j) rfl .int rfl) ⟨rfl,rfl,trivial⟩ ?_;obtain⟨D,e,h⟩:=aa h;refine kb (cM (t:=Ti) rfl gX bP e) ?_;refine aI rfl rfl (iD (i:=Int.toNat r5.1) rfl bP rfl (o8 e) rfl .int rfl) ⟨rfl,rfl,trivial⟩ ?_;refine au ?_;refine ae (mq ?_);obtain⟨u,s,h⟩:=aa h;refine jb (be rfl s) ?_;refine au ?_;exact jz (v7,(r5.2.1,r5.2.2.1,r5.2.2.2,List.set (List.set (y3.2.2.2.1++[y3.2.2.2.2]) (Int.toNat y3.2.2.2.2) x8) (Int.toNat r5.1) y3.2.2.2.2,u)) h [1,0]
  .refine au ?_;exact jz (z4,(y3.2.2.2.1,y3.1,y3.2.1,y3.2.2.1)) h [1,0]
 .
  refine sr (mq ?_);refine aq (nt (cC ?_));refine bf (fV [4,5,31] ⟨rfl,rfl,rfl,trivial⟩) ?_;cases h;exact aN () [_] 1 ⟨rfl,trivial⟩ rfl
def c8{σ:Type}(k:Nat)(a0:(List Int))(a3:Int)(self:(List Int)->Int->σ->Option (Bool×σ)):Nat->(Int×σ)->Option (Except (Bool×σ) (σ))
 |0,_=>none
 |n+1,y6=>
  if y6.1 < a3 then((bO (aZ (length a0+length [y6.1]))).bind λ_=>
  (ck (y6.1+1)).bind λh=>
  (self (a0++[y6.1]) h y6.2).bind λc=>
  if¬(c.1=true) then(some (.error (false,c.2))) else((ck (y6.1+1)).bind λe=>
  c8 k a0 a3 self n (e,c.2))) else(some (.ok y6.2))
def cU{σ:Type}(k:Nat)(Y:σ->(List Int)->Option (σ×Bool))(a3:Int):Nat->(List Int)->Int->σ->Option (Bool×σ)
 |0,_,_,_=>none
 |m0+1,a0,a1,s0=>
  (eO k a0).bind λr1=>
  (Y s0 r1).bind λr2=>
  if¬(r2.2=true) then(some (false,r2.1)) else(bE (α:=σ) (c8 k a0 a3 (cU k Y a3 m0) k (a1,r2.1)) (some) λx4=>
  some (true,x4))
theorem sq{M:Md Tryz.prog}{σ Z:Type}(E:Z->σ->List D)(l:Nat)(Y:σ->(List Int)->Option (σ×Bool))(k:Nat)(u:Nat)(a3:Int)(j:Nat)(c:Nat)(hY:∀z s p r,Y s p=some r->YT M l [.rep Tl p] (E z s) (λz':Z=>(.eq (.bool r.2),E z' r.1))):
 ∀(n:Nat) (a0:(List Int)) (x:Value) (a1:Int) (z0:Z) (s0:σ) (r:Bool×σ),cU k Y a3 n a0 a1 s0=some r->bT M 65 [.eq x,I a1,Pt u,Pt j,Pt c] ([.sl x 3 Ti a0,.obj u 111 (.eq (.func (.yield l) #[] #[])),.obj j 3 (I a3),.obj c 112 (.eq (.func (.func 65) #[] #[(Pv u),(Pv j),(Pv c)]))]++E z0 s0) (λz:Z=>(bn [.eq (.bool r.1)],[.sl x 3 Ti a0,.obj u 111 (.eq (.func (.yield l) #[] #[])),.obj j 3 (I a3),.obj c 112 (.eq (.func (.func 65) #[] #[(Pv u),(Pv j),(Pv c)]))]++E z r.2)):=by
 intro n
 induction n with
 |zero=>intro a0 x a1 z0 s0 r h;cases h
 |succ m0 ih=>
  intro a0 x a1 z0 s0 r h;rw [cU] at h;replace h:=aY h;refine bT.of 29 Tryz.func65 rfl Tryz.ntmps65 rfl λS w0=>?_;refine au ?_;refine bD ?_;refine ea 1 (ak rfl T9 iV rfl) ?_;refine dm ?_;obtain⟨r1,Ye,h⟩:=aa h;refine xC 0 rfl rfl rfl rfl (LG (jB (N:=[(.tmp 10,.eq x)]) (ax [.tmp 10] rfl rfl Va rfl (od k a0 r1 Ye)) (λ_ _ _ hv hn=>⟨(lend hn.1 hv),trivial⟩) (λ_=>⟨rfl,KN (by simp [D.flat,A.flat,Ty.flat])⟩))) ⟨rfl,trivial⟩ ?_;refine df cy ?_;obtain⟨r2,Yd,h⟩:=aa h;refine fr 3 ?_;refine fr 3 ?_;refine fr 3 ?_;refine fr 3 ?_;refine xw [.sl x 3 Ti a0,.obj u 111 (.eq (.func (.yield l) #[] #[])),.obj j 3 (I a3),.obj c 112 (.eq (.func (.func 65) #[] #[(Pv u),(Pv j),(Pv c)]))] rfl rfl rfl (FD [.tmp 11] rfl rfl rfl (hY z0 s0 r1 r2 Yd)) ⟨rfl,rfl,trivial⟩ λz3=>?_;refine ja (eQ rfl) ?_;refine nt (cw h (λh=>?_) (λh=>?_))
  .refine au ?_;cases h;exact nO z3 [_] ⟨rfl,trivial⟩ rfl
  .refine sk (cF (Z:=Z) (α:=σ) (λz5 x4=>[]) (λz5 x4=>[.sl x 3 Ti a0,.obj u 111 (.eq (.func (.yield l) #[] #[])),.obj j 3 (I a3),.obj c 112 (.eq (.func (.func 65) #[] #[(Pv u),(Pv j),(Pv c)]))]++E z5 x4) (λe=>e=r) h (λe h=>Option.some.inj h) (λK hR h=>?_) (λz5 x4 h=>?_))
   .refine au ?_;refine ai (aF (Z:=Z) (α:=Int×σ) (λz7 y6=>[(0,.eq x),(3,Pt j),(4,Pt c),(8,I y6.1)]) (λz7 y6=>[.sl x 3 Ti a0,.obj j 3 (I a3),.obj c 112 (.eq (.func (.func 65) #[] #[(Pv u),(Pv j),(Pv c)])),.obj u 111 (.eq (.func (.yield l) #[] #[]))]++E z7 y6.2) (c8 k a0 a3 (cU k Y a3 m0)) k z3 (a1,r2.1) (λ_=>rfl) h (gV [.sl x 3 Ti a0,.obj u 111 (.eq (.func (.yield l) #[] #[])),.obj j 3 (I a3),.obj c 112 (.eq (.func (.func 65) #[] #[(Pv u),(Pv j),(Pv c)]))] (E z3 r2.1) [0,2,3,1] ⟨rfl,rfl,rfl,rfl,trivial⟩ rfl) (λn z7 y6 h=>?_));unfold c8 at h;refine bC (sr (mq ?_));refine fr 1 ?_;refine lo bP ?_;refine jb (bj rfl) ?_;refine nt (ci h (λh=>?_) (λh=>?_))
    .refine au ?_;refine ai (bC (ng ?_));refine eZ 2 rfl rfl rfl rfl (ak rfl IQ iV rfl) ⟨rfl,trivial⟩ ?_;refine aO rfl rfl rfl (aP rfl) ⟨rfl,trivial⟩ ?_;refine aO rfl rfl rfl (aP rfl) ⟨rfl,trivial⟩ ?_;refine aO rfl rfl rfl (aX (t:=Ti) [(.tmp 22,_)] [y6.1] rfl rfl cX (.cons rfl .int .nil) rfl rfl) ⟨rfl,trivial⟩ ?_;obtain⟨u8,zM,h⟩:=aa h;refine Ds 1 rfl (λv=>[.sl v 3 Ti (a0++[y6.1]),.sl (Fo x v (length a0)) 3 Ti (Fp x v a0)]) (λ_=>rfl) rfl rfl rfl (zV rfl rfl cX (ap zM) rfl) ⟨rfl,rfl,trivial⟩ ?_;refine aO rfl rfl rfl (aP rfl) ⟨rfl,trivial⟩ ?_;obtain⟨J,Q,h⟩:=aa h;refine aO rfl rfl rfl (be rfl Q) ⟨rfl,rfl,trivial⟩ ?_;refine PS (pre:=[.obj j 3 (I a3),.sl x 3 Ti a0,.obj c 112 (.eq (.func (.func 65) #[] #[(Pv u),(Pv j),(Pv c)])),.obj u 111 (.eq (.func (.yield l) #[] #[]))]) (E:=E z7 y6.2) 7 [true,true,true,true,true,true,true] [27,28] [] [] rfl (by kernel_rfl) (by kernel_rfl) (by kernel_rfl) cy (by kernel_rfl) (λvs hv hB=>?_);obtain⟨w0,Yl,rfl,zz⟩:=an hv;obtain⟨w1,Yk,rfl,qt⟩:=an zz;obtain⟨w2,Yj,rfl,pq⟩:=an qt;obtain⟨w3,Yi,rfl,mw⟩:=an pq;obtain⟨v9,Yh,rfl,mt⟩:=an mw;obtain⟨w5,Yg,rfl,mc⟩:=an mt;obtain⟨w6,Yf,rfl,gw⟩:=an mc;obtain rfl:=jY gw;refine⟨[0,1,2,3,4],[.obj j 3 (I a3),.obj c 112 (.eq (.func (.func 65) #[] #[(Pv u),(Pv j),(Pv c)])),.obj u 111 (.eq (.func (.yield l) #[] #[])),.sl v9 3 Ti (a0++[y6.1]),.sl (Fo x v9 (length a0)) 3 Ti (Fp x v9 a0)],by kernel_rfl,by decide,?_⟩;refine PL (Δ':=[.obj j 3 (I a3),.obj c 112 (.eq (.func (.func 65) #[] #[(Pv u),(Pv j),(Pv c)])),.obj u 111 (.eq (.func (.yield l) #[] #[])),.sl v9 3 Ti (a0++[y6.1]),.sl (Fo x v9 (length a0)) 3 Ti (Fp x v9 a0)]++E z7 y6.2) (by kernel_rfl) rfl ?_;obtain⟨F,U,h⟩:=aa h;refine fr 1 ?_;refine fr 1 ?_;refine fr 2 ?_;refine fr 3 ?_;refine fr 4 ?_;refine xw [.sl (Fo x v9 (length a0)) 3 Ti (Fp x v9 a0)] rfl rfl rfl (ov (fs:=[]) (cs:=[(Pv u),(Pv j),(Pv c)]) (ags:=[.eq v9,I J]) [.tmp 24,.tmp 26] rfl rfl UZ rfl (ih (a0++[y6.1]) v9 J z7 y6.2 F U)) ⟨rfl,rfl,rfl,trivial⟩ λy=>?_;refine fr 1 ?_;refine dQ E4 ?_;refine ja (eQ rfl) ?_;refine nt (cw h (λh=>?_) (λh=>?_))
     .refine au ?_;obtain rfl:=hR _ h;exact nO y [_] ⟨rfl,trivial⟩ rfl
     .refine au ?_;refine ae (mq ?_);obtain⟨X,O,h⟩:=aa h;refine jb (be rfl O) ?_;refine au ?_;exact uR (y,(X,F.2)) h (gV [.sl x 3 Ti a0,.obj u 111 (.eq (.func (.yield l) #[] #[])),.obj j 3 (I a3),.obj c 112 (.eq (.func (.func 65) #[] #[(Pv u),(Pv j),(Pv c)]))] (E y F.2) [0,2,3,1] ⟨rfl,rfl,rfl,rfl,trivial⟩ rfl)
    .refine au ?_;exact uR (z7,y6.2) h (gV [.obj j 3 (I a3),.sl x 3 Ti a0,.obj c 112 (.eq (.func (.func 65) #[] #[(Pv u),(Pv j),(Pv c)])),.obj u 111 (.eq (.func (.yield l) #[] #[]))] (E z7 y6.2) [1,3,0,2] trivial rfl)
   .refine au ?_;cases h;exact nO z5 [_] ⟨rfl,trivial⟩ rfl
def ii{σ:Type}(k:Nat)(Y:σ->(List Int)->Option (σ×Bool))(a1:Int)(s0:σ):Option (σ):=
 (cU k Y a1 k ([]:(List Int)) 0 s0).bind λr3=>
 some r3.2
theorem uo{M:Md Tryz.prog}{σ Z:Type}(E:Z->σ->List D)(l:Nat)(Y:σ->(List Int)->Option (σ×Bool))(k:Nat)(a1:Int)(c:Nat)(hY:∀z s p r,Y s p=some r->YT M l [.rep Tl p] (E z s) (λz':Z=>(.eq (.bool r.2),E z' r.1))):
 ∀(z0:Z) (s0:σ) (r:σ),ii k Y a1 s0=some r->bT M 64 [.eq (.func (.yield l) #[] #[]),Pt c] ([.obj c 3 (I a1)]++E z0 s0) (λz:Z=>(bn [],[.obj c 3 (I a1)]++E z r)):=by
 intro z0 s0 r h
 unfold ii at h
 replace h:=aY h
 refine bT.of 7 Tryz.func64 rfl Tryz.ntmps64 rfl λS w0=>?_
 refine sr ?_
 refine bx λb1=>?_
 refine au ?_
 refine aQ rfl rfl rfl (aV rfl TN Vx) trivial λb2=>?_
 refine au ?_
 refine jc (qj [] [.tmp 2,.tmp 1,.tmp 3] [] [(Pv b1),(Pv c),(Pv b2)] rfl rfl rfl) ?_
 refine aI rfl rfl (aD rfl IQ rfl rfl rfl) ⟨rfl,rfl,trivial⟩ ?_
 refine nt ?_
 refine ae ?_
 refine lo IQ ?_
 refine dQ (SE.nil 3 Ti) ?_
 obtain⟨r3,e,h⟩:=aa h
 have j:=sq E l Y k b1 a1 c b2 hY k ([]:(List Int)) (.slice none 0 0) 0 z0 s0 r3 e
 refine fr 1 ?_
 refine fr 3 ?_
 refine fr 3 ?_
 refine fr 3 ?_
 refine xy rfl rfl rfl (ov (fs:=[]) (cs:=[(Pv b1),(Pv c),(Pv b2)]) (ags:=[.eq (.slice none 0 0),I 0]) [.const (.slice none 0 0),.const (.int .i64 (0))] rfl rfl UZ rfl j) ⟨rfl,rfl,rfl,trivial⟩ λz4=>?_
 refine bp ?_
 refine kh ?_
 refine bf (gV (Γ':=[]) [.sl (.slice none 0 0) 3 Ti ([]:(List Int)),.obj b1 111 (.eq (.func (.yield l) #[] #[])),.obj c 3 (I a1),.obj b2 112 (.eq (.func (.func 65) #[] #[(Pv b1),(Pv c),(Pv b2)]))] (E z4 r3.2) [2] trivial rfl) ?_
 cases h
 exact nO z4 [] trivial rfl
theorem wM(a0:Int):cT Tryz.prog 29 [I a0] [] (λz:Nat=>(bn [.eq (.func (.func 64) #[] #[(Pv z)])],[.obj z 3 (I a0)])):=by
 refine cT.of 4 Tryz.func29 rfl Tryz.ntmps29 rfl λS w0=>?_;refine sr (bx λz=>?_);refine au ?_;refine ja (qj [] [.tmp 1] [] [(Pv z)] rfl rfl rfl) ?_;refine au ?_;exact aN z [_] 1 ⟨rfl,trivial⟩ rfl
def fO(k:Nat)(a0:Int)(a1:Int)(a2:Int):Option Bool:=
 ((if a1≤a0 then(some (decide (a0≤a2))) else(some false)):Option (Bool)).bind λx1=>
 some x1
theorem ie(k:Nat)(a0:Int)(a1:Int)(a2:Int)(r:Bool)(h:fO k a0 a1 a2=some r):
 cT Tryz.prog 67 [I a0,I a1,I a2] [] (λ_:Unit=>(bn [.eq (.bool r)],[])):=by
 unfold fO at h
 replace h:=aY h
 refine cT.of 15 Tryz.func67 rfl Tryz.ntmps67 rfl λS w0=>?_
 refine sr ?_
 refine cq ?_
 refine nt ?_
 refine aJ (Z:=Unit) (α:=Bool) (λz2 x1=>[(6,.eq (.bool x1))]) (λz2 x1=>[]) h (λK h=>?_) (λz2 x1 h=>?_)
 .
  refine ae (au ?_);refine jb (i9 rfl) ?_;refine mq ?_;refine bV (s:=10) rfl (λhb=>?_) (λhb=>?_)
  .replace h:=dY (vz hb) h;refine au ?_;refine gb (yJ rfl) ?_;refine au ?_;exact jz ((),decide (a0≤a2)) h []
  .replace h:=cz (vA hb) h;refine au ?_;exact jz ((),false) h []
 .
  refine cC ?_;cases h;exact ra
def ic(k:Nat)(a0:ab)(a1:Int):Option Bool:=
 (fO k a1 0 (IntKind.i64.wrap (a0.1 - 1))).bind λr2=>
 some r2
theorem om(k:Nat)(a0:ab)(a1:Int)(r:Bool)(h:ic k a0 a1=some r):
 cT Tryz.prog 73 [.rep ah a0,I a1] [] (λ_:Unit=>(bn [.eq (.bool r)],[])):=by
 unfold ic at h
 replace h:=aY h
 refine cT.of 10 Tryz.func73 rfl Tryz.ntmps73 rfl λS w0=>?_
 refine sr ?_
 refine bx λb1=>?_
 refine au ?_
 refine fl ff ?_
 refine lo bP ?_
 refine jb (Rm rfl) ?_
 obtain⟨r2,c,h⟩:=aa h
 have e:=ie k a1 0 (IntKind.i64.wrap (a0.1 - 1)) r2 c
 refine jc (ax [.tmp 5,.const (.int .i64 (0)),.tmp 8] rfl rfl Hv rfl e) ?_
 refine au ?_
 cases h
 exact ra
def i8(k:Nat)(a0:ab)(a1:Int):Option Bool:=
 (fO k a1 0 (a0.2.2.2.2.1.length:Int)).bind λr2=>
 some r2
theorem t8(k:Nat)(a0:ab)(a1:Int)(r:Bool)(h:i8 k a0 a1=some r):
 cT Tryz.prog 74 [.rep ah a0,I a1] [] (λ_:Unit=>(bn [.eq (.bool r)],[])):=by
 unfold i8 at h
 replace h:=aY h
 refine cT.of 10 Tryz.func74 rfl Tryz.ntmps74 rfl λS w0=>?_
 refine sr ?_
 refine bx λb1=>?_
 refine au ?_
 refine fl co ?_
 refine lo fp ?_
 refine ol pJ ?_
 obtain⟨r2,c,h⟩:=aa h
 have e:=ie k a1 0 (a0.2.2.2.2.1.length:Int) r2 c
 refine jc (ax [.tmp 5,.const (.int .i64 (0)),.tmp 8] rfl rfl Hv rfl e) ?_
 refine au ?_
 cases h
 exact ra
def fh(k:Nat)(a0:ab)(a1:aC):Option Int:=
 (((ic k a0 a1.1).bind λr5=>
 if¬(r5=true) then(some true) else((i8 k a0 a1.2.1).bind λr6=>
 some (!r6))):Option (Bool)).bind λx3=>
 if x3=true then(some 3) else(some 0)
theorem mI(k:Nat)(a0:ab)(a1:aC)(r:Int)(h:fh k a0 a1=some r):
 cT Tryz.prog 38 [.rep ah a0,.rep aA a1] [] (λ_:Unit=>(bn [I r],[])):=by
 unfold fh at h
 replace h:=aY h
 refine cT.of 17 Tryz.func38 rfl Tryz.ntmps38 rfl λS w0=>?_
 refine sr ?_
 refine bx λb1=>?_
 refine bx λb2=>?_
 refine cq ?_
 refine nt ?_
 refine bC ?_
 refine aJ (Z:=Unit) (α:=Bool) (λz4 x3=>[(16,.eq (.bool x3))]) (λz4 x3=>[]) h (λK h=>?_) (λz4 x3 h=>?_)
 .
  refine ae (fr 1 ?_);refine lo bB ?_;refine fl Ao ?_;refine fr 1 ?_;refine lo bP ?_;obtain⟨r5,e,h⟩:=aa h;refine jb (ax [.tmp 5,.tmp 7] rfl rfl UX rfl (om k a0 a1.1 r5 e)) ?_;refine ja (eQ rfl) ?_;refine mq ?_;refine bV (s:=10) rfl (λhb=>?_) (λhb=>?_)
  .replace h:=dY (ti hb) h;refine au ?_;exact jz ((),true) h []
  .replace h:=cz (nC hb) h;refine fr 1 ?_;refine eI rfl rfl rfl rfl rfl rfl (ak rfl bB (kB) rfl) ⟨rfl,trivial⟩ ?_;refine ga (av rfl An) ?_;refine fr 1 ?_;refine eI rfl rfl rfl rfl rfl rfl (ak rfl bP iV rfl) ⟨rfl,trivial⟩ ?_;obtain⟨r6,c,h⟩:=aa h;refine gb (ax [.tmp 11,.tmp 13] rfl rfl WX rfl (t8 k a0 a1.2.1 r6 c)) ?_;refine ga (eQ rfl) ?_;refine au ?_;exact jz ((), !r6) h []
 .
  refine cv h (λh=>?_) (λh=>?_)
  .refine au ?_;cases h;exact ra
  .refine au ?_;cases h;exact ra
def iy(k:Nat)(a0:(List Int))(a1:Int):Nat->Int->Option (Except Bool Unit)
 |0,_=>none
 |n+1,y3=>
  if y3 < (a0.length:Int) then((aK a0 y3).bind λx5=>
  if x5=a1 then(some (.error true)) else((ck (y3+1)).bind λx6=>
  iy k a0 a1 n x6)) else(some (.ok ()))
def oR(k:Nat)(a0:(List Int))(a1:Int):Option Bool:=
 bE (α:=Unit) (iy k a0 a1 k 0) (some) λ_=>
 some false
theorem rW(k:Nat)(a0:(List Int))(a1:Int)(r:Bool)(h:oR k a0 a1=some r):
 cT Tryz.prog 71 [.rep Tl a0,I a1] [] (λ_:Unit=>(bn [.eq (.bool r)],[])):=by
 unfold oR at h
 replace h:=aY h
 refine cT.of 18 Tryz.func71 rfl Tryz.ntmps71 rfl λS w0=>?_
 refine sr ?_
 refine cq ?_
 refine nt ?_
 refine cF (Z:=Unit) (α:=Unit) (λz2 x1=>[]) (λz2 x1=>[]) (λe=>e=r) h (λe h=>Option.some.inj h) (λK hR h=>?_) (λz2 x1 h=>?_)
 .
  refine au ?_;refine ai (aF (λz4 y3=>[(0,.rep Tl a0),(1,I a1),(5,I y3)]) (λz4 y3=>[]) (iy k a0 a1) k () 0 (λ_=>rfl) h (SE.fin [] ⟨rfl,rfl,rfl,trivial⟩ rfl) (λn z4 y3 h=>?_));unfold iy at h;refine au ?_;refine ol gX ?_;refine jb (bj rfl) ?_;refine nt (ci h (λh=>?_) (λh=>?_))
  .refine au ?_;refine ai (au ?_);obtain⟨x5,j,h⟩:=aa h;refine jb (aG (t:=Ti) rfl gX bP j) ?_;refine ja (ao (t:=Ti) rfl bP rfl) ?_;refine mq ?_;refine jb (iG rfl) ?_;refine nt (ci h (λh=>?_) (λh=>?_))
   .refine au ?_;obtain rfl:=hR _ h;exact ra
   .refine au ?_;refine ae (mq ?_);obtain⟨x6,c,h⟩:=aa h;refine jb (be rfl c) ?_;refine au ?_;exact jz ((),x6) h []
  .refine au ?_;exact jz ((),()) h []
 .
  refine au ?_;cases h;exact ra
def dT(k:Nat)(a0:ab)(a1:(List (List Int)))(y4:(List Int)×Int):Nat->((List Int)×Int)->Option (Except Int (List Int))
 |0,_=>none
 |n+1,y8=>
  (aK a1 y4.2).bind λu=>
  if y8.2 < (u.length:Int) then((aK a1 y4.2).bind λs=>
  (aK s y8.2).bind λr=>
  (ic k a0 r).bind λy=>
  if¬(y=true) then(some (.error 3)) else((aK a1 y4.2).bind λl=>
  (aK l y8.2).bind λj=>
  (oR k y8.1 j).bind λx=>
  if x=true then(some (.error 4)) else((aK a1 y4.2).bind λh=>
  (aK h y8.2).bind λc=>
  (bO (aZ (length y8.1+length [c]))).bind λ_=>
  (ck (y8.2+1)).bind λe=>
  dT k a0 a1 y4 n (y8.1++[c],e)))) else(some (.ok y8.1))
def dU(k:Nat)(a0:ab)(a1:(List (List Int))):Nat->((List Int)×Int)->Option (Except Int Unit)
 |0,_=>none
 |n+1,y4=>
  if y4.2 < (a1.length:Int) then(bE (α:=(List Int)) (dT k a0 a1 y4 k (y4.1,0)) (λe=>some (.error e)) λx6=>
  (ck (y4.2+1)).bind λc=>
  dU k a0 a1 n (x6,c)) else(some (.ok ()))
def jP(k:Nat)(a0:ab)(a1:(List (List Int))):Option Int:=
 if 3 < (a1.length:Int) then(some 6) else(bE (α:=Unit) (dU k a0 a1 k (([]:(List Int)),0)) (some) λ_=>
 some 0)
theorem vo(k:Nat)(a0:ab)(a1:(List (List Int)))(r:Int)(h:jP k a0 a1=some r):
 cT Tryz.prog 68 [.rep ah a0,.rep (.slice Tl) a1] [] (λ_:Unit=>(bn [I r],[])):=by
 unfold jP at h
 replace h:=aY h
 refine cT.of 55 Tryz.func68 rfl Tryz.ntmps68 rfl λS w0=>?_
 refine sr ?_
 refine bx λb1=>?_
 refine au ?_
 refine ol nR ?_
 refine jb (iq rfl) ?_
 refine nt ?_
 refine ci h (λh=>?_) (λh=>?_)
 .
  refine au ?_;cases h;exact ra
 .
  refine sk (sr (cq (nt ?_)));refine cF (Z:=Unit) (α:=Unit) (λz3 x2=>[]) (λz3 x2=>[]) (λe=>e=r) h (λe h=>Option.some.inj h) (λK hR h=>?_) (λz3 x2 h=>?_)
  .refine au ?_;refine ai (ia (SE.nil 3 Ti) ?_);refine aF (λz5 y4=>[(1,.rep (.slice Tl) a1),(2,Pt b1),(5,.eq z5),(6,I y4.2)]) (λz5 y4=>[.obj b1 25 (.rep ah a0),.sl z5 3 Ti y4.1]) (dU k a0 a1) k (.slice none 0 0) (([]:(List Int)),0) (λ_=>rfl) h (SE.fin [1,0] ⟨rfl,rfl,rfl,rfl,trivial⟩ rfl) (λn z5 y4 h=>?_);unfold dU at h;refine au ?_;refine ol nR ?_;refine jb (bj rfl) ?_;refine nt (ci h (λh=>?_) (λh=>?_))
   .refine sk (cF (Z:=Value) (α:=(List Int)) (λz7 x6=>[(1,.rep (.slice Tl) a1),(2,Pt b1),(5,.eq z7),(6,I y4.2)]) (λz7 x6=>[.obj b1 25 (.rep ah a0),.sl z7 3 Ti x6]) (λe=>e=r) h (λe h=>hR e h) (λK hR h=>?_) (λz7 x6 h=>?_))
    .refine ai (au ?_);refine ai (aF (λz9 y8=>[(1,.rep (.slice Tl) a1),(2,Pt b1),(5,.eq z9),(6,I y4.2),(7,I y8.2)]) (λz9 y8=>[.obj b1 25 (.rep ah a0),.sl z9 3 Ti y8.1]) (dT k a0 a1 y4) k z5 (y4.1,0) (λ_=>rfl) h (SE.fin [0,1] ⟨rfl,rfl,rfl,rfl,rfl,trivial⟩ rfl) (λn z9 y8 h=>?_));unfold dT at h;refine au ?_;obtain⟨zz,J,h⟩:=aa h;refine jb (aG (t:=Tl) rfl nR eB J) ?_;refine ja (ao (t:=Tl) rfl eB rfl) ?_;refine ol gX ?_;refine jb (bj rfl) ?_;refine nt (ci h (λh=>?_) (λh=>?_))
     .refine au ?_;refine ai (au ?_);refine bD ?_;refine ea 0 (ak rfl bB (kB) rfl) ?_;refine dm ?_;refine dm ?_;obtain⟨qt,F,h⟩:=aa h;refine db (aG (t:=Tl) rfl nR eB F) ?_;refine da (ao (t:=Tl) rfl eB rfl) ?_;refine dm ?_;obtain⟨Y,E,h⟩:=aa h;refine db (aG (t:=Ti) rfl gX bP E) ?_;refine da (ao (t:=Ti) rfl bP rfl) ?_;refine df cy ?_;obtain⟨mt,Q,h⟩:=aa h;refine jb (ax [.tmp 26,.tmp 33] rfl rfl UX rfl (om k a0 Y mt Q)) ?_;refine ja (eQ rfl) ?_;refine nt (cw h (λh=>?_) (λh=>?_))
      .refine au ?_;obtain rfl:=hR _ h;exact ra
      .refine au ?_;obtain⟨pq,D,h⟩:=aa h;refine jb (aG (t:=Tl) rfl nR eB D) ?_;refine ja (ao (t:=Tl) rfl eB rfl) ?_;refine mq ?_;obtain⟨j,y,h⟩:=aa h;refine jb (aG (t:=Ti) rfl gX bP y) ?_;refine ja (ao (t:=Ti) rfl bP rfl) ?_;obtain⟨mc,O,h⟩:=aa h;refine fr 1 ?_;refine kb (jB (N:=[(.tmp 36,.eq z9),(.tmp 43,I j)]) (ax [.tmp 36,.tmp 43] rfl rfl RY rfl (rW k y8.1 j mc O)) (λ_ _ _ hv hn=>⟨(lend hn.1 hv),hn.2.1,trivial⟩) (λ_=>⟨rfl,oL⟩)) ?_;refine nt (cv h (λh=>?_) (λh=>?_))
       .refine au ?_;obtain rfl:=hR _ h;exact ra
       .refine sk (ae (au ?_));obtain⟨mw,x,h⟩:=aa h;refine jb (aG (t:=Tl) rfl nR eB x) ?_;refine ja (ao (t:=Tl) rfl eB rfl) ?_;refine mq ?_;obtain⟨c,u,h⟩:=aa h;refine jb (aG (t:=Ti) rfl gX bP u) ?_;refine ja (ao (t:=Ti) rfl bP rfl) ?_;refine ja (aX (t:=Ti) [(.tmp 52,_)] [c] rfl rfl cX (.cons rfl .int .nil) rfl rfl) ?_;obtain⟨zM,M,h⟩:=aa h;refine cI rfl rfl rfl (bg rfl rfl cX (ap M)) ⟨rfl,rfl,trivial⟩ λgw=>?_;refine au ?_;refine ae (mq ?_);obtain⟨X,s,h⟩:=aa h;refine jb (be rfl s) ?_;refine au ?_;exact jz (gw,(y8.1++[c],X)) h [1,0]
     .refine au ?_;exact jz (z9,y8.1) h [0,1]
    .refine ae (mq ?_);obtain⟨U,l,h⟩:=aa h;refine jb (be rfl l) ?_;refine au ?_;exact jz (z7,(x6,U)) h [0,1]
   .refine au ?_;exact jz ((),()) h []
  .refine au ?_;cases h;exact ra
def fA(k:Nat)(a0:ab):Nat->Int->Option (Except Int Unit)
 |0,_=>none
 |n+1,c=>
  if c < (a0.2.2.2.2.1.length:Int) then((aK a0.2.2.2.2.1 c).bind λj=>
  (jP k a0 j).bind λe=>
  if¬(e=0) then(some (.error e)) else((ck (c+1)).bind λh=>
  fA k a0 n h)) else(some (.ok ()))
def fy(k:Nat)(a0:ab):Nat->Int->Option (Except Int Unit)
 |0,_=>none
 |n+1,c=>
  if c < (a0.2.2.2.2.2.length:Int) then((aK a0.2.2.2.2.2 c).bind λj=>
  (fh k a0 j).bind λe=>
  if¬(e=0) then(some (.error e)) else((ck (c+1)).bind λh=>
  fy k a0 n h)) else(some (.ok ()))
def l8(k:Nat)(a0:ab):Option Int:=
 (((fO k a0.1 1 5).bind λr4=>
 if¬(r4=true) then(some true) else((fO k a0.2.1 0 3).bind λr5=>
 if¬(r5=true) then(some true) else((fO k a0.2.2.1 0 3).bind λr6=>
 if¬(r6=true) then(some true) else((fO k a0.2.2.2.1 1 3).bind λr7=>
 some (!r7))))):Option (Bool)).bind λx2=>
 if x2=true then(some 1) else(if(a0.2.2.2.2.1.length:Int)=0 then(some 7) else(if 6 < (a0.2.2.2.2.1.length:Int) then(some 6) else(bE (α:=Unit) (fA k a0 k 0) (some) λ_=>
 if 8 < (a0.2.2.2.2.2.length:Int) then(some 6) else(bE (α:=Unit) (fy k a0 k 0) (some) λ_=>
 some 0))))
theorem ta(k:Nat)(a0:ab)(r:Int)(h:l8 k a0=some r):
 cT Tryz.prog 32 [.rep ah a0] [] (λ_:Unit=>(bn [I r],[])):=by
 unfold l8 at h
 replace h:=aY h
 refine cT.of 75 Tryz.func32 rfl Tryz.ntmps32 rfl λS w0=>?_
 refine sr ?_
 refine bx λb1=>?_
 refine cq ?_
 refine nt ?_
 refine bC ?_
 refine aJ (Z:=Unit) (α:=Bool) (λz3 x2=>[(1,Pt b1),(28,.eq (.bool x2))]) (λz3 x2=>[.obj b1 25 (.rep ah a0)]) h (λK h=>?_) (λz3 x2 h=>?_)
 .
  refine ae (fl ff ?_);refine lo bP ?_;obtain⟨r4,qt,h⟩:=aa h;refine jc (ax [.tmp 8,.const (.int .i64 (1)),.const (.int .i64 (5))] rfl rfl Hv rfl (ie k a0.1 1 5 r4 qt)) ?_;refine ja (eQ rfl) ?_;refine mq ?_;refine bV (s:=11) rfl (λhb=>?_) (λhb=>?_)
  .replace h:=dY (ti hb) h;refine au ?_;exact jz ((),true) h [0]
  .replace h:=cz (nC hb) h;refine ga (av rfl qD) ?_;refine eI rfl rfl rfl rfl rfl rfl (ak rfl bP iV rfl) ⟨rfl,trivial⟩ ?_;obtain⟨r5,pq,h⟩:=aa h;refine gc (ax [.tmp 13,.const (.int .i64 (0)),.const (.int .i64 (3))] rfl rfl Hv rfl (ie k a0.2.1 0 3 r5 pq)) ?_;refine ga (eQ rfl) ?_;refine pf ?_;refine mq ?_;refine bV (s:=17) rfl (λhb=>?_) (λhb=>?_)
   .replace h:=dY (ti hb) h;refine au ?_;exact jz ((),true) h [0]
   .replace h:=cz (nC hb) h;refine ga (av rfl sL) ?_;refine eI rfl rfl rfl rfl rfl rfl (ak rfl bP iV rfl) ⟨rfl,trivial⟩ ?_;obtain⟨r6,mw,h⟩:=aa h;refine gc (ax [.tmp 19,.const (.int .i64 (0)),.const (.int .i64 (3))] rfl rfl Hv rfl (ie k a0.2.2.1 0 3 r6 mw)) ?_;refine ga (eQ rfl) ?_;refine pf ?_;refine mq ?_;refine bV (s:=23) rfl (λhb=>?_) (λhb=>?_)
    .replace h:=dY (ti hb) h;refine au ?_;exact jz ((),true) h [0]
    .replace h:=cz (nC hb) h;refine ga (av rfl uF) ?_;refine eI rfl rfl rfl rfl rfl rfl (ak rfl bP iV rfl) ⟨rfl,trivial⟩ ?_;obtain⟨r7,mt,h⟩:=aa h;refine gc (ax [.tmp 25,.const (.int .i64 (1)),.const (.int .i64 (3))] rfl rfl Hv rfl (ie k a0.2.2.2.1 1 3 r7 mt)) ?_;refine ga (eQ rfl) ?_;refine au ?_;exact jz ((), !r7) h [0]
 .
  refine cv h (λh=>?_) (λh=>?_)
  .refine au ?_;cases h;exact ra
  .refine au ?_;refine fl co ?_;refine lo fp ?_;refine ol pJ ?_;refine jb (iG rfl) ?_;refine nt (ci h (λh=>?_) (λh=>?_))
   .refine au ?_;cases h;exact ra
   .refine au ?_;refine fl co ?_;refine lo fp ?_;refine ol pJ ?_;refine jb (iq rfl) ?_;refine nt (ci h (λh=>?_) (λh=>?_))
    .refine au ?_;cases h;exact ra
    .refine sk (cF (Z:=Unit) (α:=Unit) (λz9 x8=>[(1,Pt b1)]) (λz9 x8=>[.obj b1 25 (.rep ah a0)]) (λe=>e=r) h (λe h=>Option.some.inj h) (λK hR h=>?_) (λz9 x8 h=>?_))
     .refine au ?_;refine ai (aF (λx j=>[(1,Pt b1),(3,I j)]) (λx j=>[.obj b1 25 (.rep ah a0)]) (fA k a0) k () 0 (λ_=>rfl) h (SE.fin [0] ⟨rfl,rfl,trivial⟩ rfl) (λn x j h=>?_));unfold fA at h;refine au ?_;refine fl co ?_;refine lo fp ?_;refine ol pJ ?_;refine jb (bj rfl) ?_;refine nt (ci h (λh=>?_) (λh=>?_))
      .refine au ?_;refine ai (bC (bD ?_));refine ea 0 (ak rfl bB (kB) rfl) ?_;refine da (av rfl co) ?_;refine ea 0 (ak rfl fp iV rfl) ?_;refine dm ?_;obtain⟨Y,J,h⟩:=aa h;refine db (aG (t:=(.slice Tl)) rfl pJ kT J) ?_;refine da (ao (t:=(.slice Tl)) rfl kT rfl) ?_;refine df cy ?_;obtain⟨mc,O,h⟩:=aa h;refine jb (ax [.tmp 44,.tmp 49] rfl rfl W0 rfl (vo k a0 Y mc O)) ?_;refine au ?_;refine jb (dG rfl) ?_;refine nt (cn h (λh=>?_) (λh=>?_))
       .refine au ?_;obtain rfl:=hR _ h;exact ra
       .refine au ?_;refine ae (mq ?_);obtain⟨X,F,h⟩:=aa h;refine jb (be rfl F) ?_;refine au ?_;exact jz ((),X) h [0]
      .refine au ?_;exact jz ((),()) h [0]
     .refine au ?_;refine fl dA ?_;refine lo jw ?_;refine ol vh ?_;refine jb (iq rfl) ?_;refine nt (ci h (λh=>?_) (λh=>?_))
      .refine au ?_;cases h;exact ra
      .refine sk (cF (Z:=Unit) (α:=Unit) (λu y=>[]) (λu y=>[]) (λe=>e=r) h (λe h=>Option.some.inj h) (λK hR h=>?_) (λu y h=>?_))
       .refine au ?_;refine ai (aF (λl c=>[(1,Pt b1),(5,I c)]) (λl c=>[.obj b1 25 (.rep ah a0)]) (fy k a0) k () 0 (λ_=>rfl) h (SE.fin [0] ⟨rfl,rfl,trivial⟩ rfl) (λn l c h=>?_));unfold fy at h;refine au ?_;refine fl dA ?_;refine lo jw ?_;refine ol vh ?_;refine jb (bj rfl) ?_;refine nt (ci h (λh=>?_) (λh=>?_))
        .refine au ?_;refine ai (bC (bD ?_));refine ea 0 (ak rfl bB (kB) rfl) ?_;refine da (av rfl dA) ?_;refine ea 0 (ak rfl jw iV rfl) ?_;refine dm ?_;obtain⟨U,E,h⟩:=aa h;refine db (aG (t:=aA) rfl vh ix E) ?_;refine da (ao (t:=aA) rfl ix rfl) ?_;refine df cy ?_;obtain⟨gw,M,h⟩:=aa h;refine jb (ax [.tmp 65,.tmp 70] rfl rfl Vb rfl (mI k a0 U gw M)) ?_;refine au ?_;refine jb (dG rfl) ?_;refine nt (cn h (λh=>?_) (λh=>?_))
         .refine au ?_;obtain rfl:=hR _ h;exact ra
         .refine au ?_;refine ae (mq ?_);obtain⟨Q,D,h⟩:=aa h;refine jb (be rfl D) ?_;refine au ?_;exact jz ((),Q) h [0]
        .refine au ?_;exact jz ((),()) h []
       .refine au ?_;cases h;exact ra
def lO(k:Nat)(y3:(List (List Int))×Int)(r9:(List (List Int))):Nat->((List (List Int))×Int)->Option (List (List Int))
 |0,_=>none
 |n+1,c=>
  if c.2 < (r9.length:Int) then((aK r9 c.2).bind λe=>
  (bO (aZ (length [y3.2]+length e))).bind λ_=>
  (bO (aZ (length c.1+length [[y3.2]++e]))).bind λ_=>
  (ck (c.2+1)).bind λh=>
  lO k y3 r9 n (c.1++[[y3.2]++e],h)) else(some c.1)
def lP(k:Nat)(a1:Int)(a2:Int)(self:Int->Int->Int->Option ((List (List Int)))):Nat->((List (List Int))×Int)->Option (List (List Int))
 |0,_=>none
 |n+1,y3=>
  if y3.2 < a1 then((((ck (y3.2+1)).bind λx7=>
  (ck (a2 - 1)).bind λx8=>
  (self x7 a1 x8).bind λr9=>
  lO k y3 r9 k (y3.1,0)):Option ((List (List Int)))).bind λx5=>
  (ck (y3.2+1)).bind λc=>
  lP k a1 a2 self n (x5,c)) else(some y3.1)
def kw(k:Nat):Nat->Int->Int->Int->Option ((List (List Int)))
 |0,_,_,_=>none
 |m0+1,a0,a1,a2=>
  if a2=0 then(some [[]]) else(((lP k a1 a2 (kw k m0) k (([]:(List (List Int))),a0)):Option ((List (List Int)))).bind λx1=>
  some x1)
theorem zH(k:Nat):
 ∀(n:Nat) (a0:Int) (a1:Int) (a2:Int) (r:(List (List Int))),kw k n a0 a1 a2=some r->cT Tryz.prog 33 [I a0,I a1,I a2] ([]) (λ_:Unit=>(bn [.rep (.slice Tl) r],[])):=by
 intro n
 induction n with
 |zero=>intro a0 a1 a2 r h;cases h
 |succ m0 ih=>
  intro a0 a1 a2 r h;rw [kw] at h;replace h:=aY h;refine cT.of 43 Tryz.func33 rfl Tryz.ntmps33 rfl λS w0=>?_;refine au ?_;refine jb (iG rfl) ?_;refine nt (ci h (λh=>?_) (λh=>?_))
  .refine sr (ja (aX (t:=Tl) [(.const (.slice none 0 0),_)] [[]] rfl rfl kU (.cons rfl .nil .nil) rfl rfl) ?_);refine au ?_;cases h;exact ra
  .refine sk (sr (cq (nt ?_)));refine aJ (Z:=Value) (α:=(List (List Int))) (λz2 x1=>[(7,.eq z2)]) (λz2 x1=>[.sl z2 28 Tl x1]) h (λK h=>?_) (λz2 x1 h=>?_)
   .refine au ?_;refine ai (ia (SE.nil 28 Tl) ?_);refine aF (λz4 y3=>[(1,I a1),(2,I a2),(7,.eq z4),(8,I y3.2)]) (λz4 y3=>[.sl z4 28 Tl y3.1]) (lP k a1 a2 (kw k m0)) k (.slice none 0 0) (([]:(List (List Int))),a0) (λ_=>rfl) h (SE.fin [0] ⟨rfl,rfl,rfl,rfl,trivial⟩ rfl) (λn z4 y3 h=>?_);unfold lP at h;refine au ?_;refine jb (bj rfl) ?_;refine nt (ci h (λh=>?_) (λh=>?_))
    .refine sk (aJ (Z:=Value) (α:=(List (List Int))) (λz6 x5=>[(1,I a1),(2,I a2),(7,.eq z6),(8,I y3.2)]) (λz6 x5=>[.sl z6 28 Tl x5]) h (λK h=>?_) (λz6 x5 h=>?_))
     .refine ai (au ?_);obtain⟨x7,M,h⟩:=aa h;refine jb (be rfl M) ?_;refine au ?_;obtain⟨x8,J,h⟩:=aa h;refine jb (eC rfl J) ?_;obtain⟨r9,O,h⟩:=aa h;refine jc (ax [.tmp 21,.tmp 22,.tmp 24] rfl rfl Vf rfl (ih x7 a1 x8 r9 O)) ?_;refine au ?_;refine ai (aF (λe c=>[(1,I a1),(2,I a2),(7,.eq e),(8,I y3.2),(9,.rep (.slice Tl) r9),(10,I c.2)]) (λe c=>[.sl e 28 Tl c.1]) (lO k y3 r9) k z4 (y3.1,0) (λ_=>rfl) h (SE.fin [0] ⟨rfl,rfl,rfl,rfl,rfl,rfl,trivial⟩ rfl) (λn e c h=>?_));unfold lO at h;refine au ?_;refine ol nR ?_;refine jb (bj rfl) ?_;refine nt (ci h (λh=>?_) (λh=>?_))
      .refine au ?_;refine ai (ae (au ?_));refine aQ rfl rfl rfl (fQ (t:=Ti) [(.tmp 33,_)] [y3.2] rfl rfl cX (.cons rfl .int .nil) rfl rfl) ⟨rfl,trivial⟩ λU=>?_;refine au ?_;obtain⟨j,u,h⟩:=aa h;refine jb (aG (t:=Tl) rfl nR eB u) ?_;refine ja (ao (t:=Tl) rfl eB rfl) ?_;obtain⟨X,y,h⟩:=aa h;refine cI rfl rfl rfl (bg rfl rfl cX (ap y)) ⟨rfl,rfl,trivial⟩ λQ=>?_;refine dQ (fV [39] ⟨rfl,trivial⟩) ?_;refine ja (aX (t:=Tl) [(.tmp 39,_)] [[y3.2]++j] rfl rfl kU (.cons rfl .rep .nil) rfl rfl) ?_;obtain⟨u16,x,h⟩:=aa h;refine cI rfl rfl rfl (bg rfl rfl kU (ap x)) ⟨rfl,rfl,trivial⟩ λF=>?_;refine au ?_;refine ae (mq ?_);obtain⟨E,s,h⟩:=aa h;refine jb (be rfl s) ?_;refine au ?_;exact jz (F,(c.1++[[y3.2]++j],E)) h [0]
      .refine au ?_;exact jz (e,c.1) h [0]
     .refine ae (mq ?_);obtain⟨D,l,h⟩:=aa h;refine jb (be rfl l) ?_;refine au ?_;exact jz (z6,(x5,D)) h [0]
    .refine au ?_;exact jz (z4,y3.1) h [0]
   .refine sr (mq ?_);refine aq (nt (cC ?_));refine bf (fV [6,7,42] ⟨rfl,rfl,rfl,trivial⟩) ?_;cases h;exact ra
def iz(k:Nat)(a0:Int)(a1:(List Int))(self:Int->(List Int)->Option ((List (List Int)))):Nat->((List (List Int))×Int)->Option (List (List Int))
 |0,_=>none
 |n+1,y9=>
  if y9.2 < a0 then((bO (aZ (length ([]:(List Int))+length a1))).bind λ_=>
  (bO (aZ (length (([]:(List Int))++a1)+length [y9.2]))).bind λ_=>
  (self a0 ((([]:(List Int))++a1)++[y9.2])).bind λc=>
  (bO (aZ (length y9.1+length c))).bind λ_=>
  (ck (y9.2+1)).bind λe=>
  iz k a0 a1 self n (y9.1++c,e)) else(some y9.1)
def lQ(k:Nat):Nat->Int->(List Int)->Option ((List (List Int)))
 |0,_,_=>none
 |m0+1,a0,a1=>
  ((if 0 < (a1.length:Int) then((ck ((a1.length:Int) - 1)).bind λx4=>
  (aK a1 x4).bind λx5=>
  (ck (x5+1)).bind λx6=>
  some x6) else(some 0)):Option (Int)).bind λx2=>
  ((iz k a0 a1 (lQ k m0) k ([a1],x2)):Option ((List (List Int)))).bind λx7=>
  some x7
theorem D7(k:Nat):
 ∀(n:Nat) (a0:Int) (a1:(List Int)) (r:(List (List Int))),lQ k n a0 a1=some r->cT Tryz.prog 69 [I a0,.rep Tl a1] ([]) (λ_:Unit=>(bn [.rep (.slice Tl) r],[])):=by
 intro n
 induction n with
 |zero=>intro a0 a1 r h;cases h
 |succ m0 ih=>
  intro a0 a1 r h;rw [lQ] at h;replace h:=aY h;refine cT.of 37 Tryz.func69 rfl Tryz.ntmps69 rfl λS w0=>?_;refine au ?_;refine aQ rfl rfl rfl (fQ (t:=Tl) [(.tmp 8,_)] [a1] rfl rfl kU (.cons rfl .rep .nil) rfl rfl) ⟨rfl,trivial⟩ λv1=>?_;refine aq (nt (sr ?_));refine cq (nt ?_);refine aJ (Z:=Unit) (α:=Int) (λz3 x2=>[(0,I a0),(1,.rep Tl a1),(5,.eq v1),(6,I x2)]) (λz3 x2=>[.sl v1 28 Tl [a1]]) h (λK h=>?_) (λz3 x2 h=>?_)
  .refine au ?_;refine ol gX ?_;refine jb (iq rfl) ?_;refine nt (ci h (λh=>?_) (λh=>?_))
   .refine ae (au ?_);refine ol gX ?_;obtain⟨x4,J,h⟩:=aa h;refine jb (eC rfl J) ?_;obtain⟨x5,F,h⟩:=aa h;refine jb (aG (t:=Ti) rfl gX bP F) ?_;refine ja (ao (t:=Ti) rfl bP rfl) ?_;obtain⟨x6,E,h⟩:=aa h;refine jb (be rfl E) ?_;refine au ?_;exact jz ((),x6) h [0]
   .refine au ?_;exact jz ((),0) h [0]
  .refine aJ (Z:=Value) (α:=(List (List Int))) (λz8 x7=>[(5,.eq z8)]) (λz8 x7=>[.sl z8 28 Tl x7]) h (λK h=>?_) (λz8 x7 h=>?_)
   .refine au ?_;refine ai (aF (λc y9=>[(0,I a0),(1,.rep Tl a1),(5,.eq c),(7,I y9.2)]) (λc y9=>[.sl c 28 Tl y9.1]) (iz k a0 a1 (lQ k m0)) k v1 ([a1],x2) (λ_=>rfl) h (SE.fin [0] ⟨rfl,rfl,rfl,rfl,trivial⟩ rfl) (λn c y9 h=>?_));unfold iz at h;refine au ?_;refine jb (bj rfl) ?_;refine nt (ci h (λh=>?_) (λh=>?_))
    .refine au ?_;refine ai (ae (au ?_));refine aQ rfl rfl rfl (fQ (t:=Ti) [] ([]:(List Int)) rfl rfl cX .nil rfl rfl) trivial λQ=>?_;refine mq ?_;obtain⟨Y,u,h⟩:=aa h;refine cI rfl rfl rfl (bg rfl rfl cX (ap u)) ⟨rfl,rfl,trivial⟩ λO=>?_;refine mq ?_;refine ja (aX (t:=Ti) [(.tmp 31,_)] [y9.2] rfl rfl cX (.cons rfl .int .nil) rfl rfl) ?_;obtain⟨X,s,h⟩:=aa h;refine cI rfl rfl rfl (bg rfl rfl cX (ap s)) ⟨rfl,rfl,trivial⟩ λM=>?_;refine dQ (fV [33] ⟨rfl,trivial⟩) ?_;obtain⟨e,x,h⟩:=aa h;refine jb (ax [.tmp 27,.tmp 33] rfl rfl UY rfl (ih a0 ((([]:(List Int))++a1)++[y9.2]) e x)) ?_;obtain⟨U,l,h⟩:=aa h;refine cI rfl rfl rfl (bg rfl rfl kU (ap l)) ⟨rfl,rfl,trivial⟩ λD=>?_;refine au ?_;refine ae (mq ?_);obtain⟨y,j,h⟩:=aa h;refine jb (be rfl j) ?_;refine au ?_;exact jz (D,(y9.1++e,y)) h [0]
    .refine au ?_;exact jz (c,y9.1) h [0]
   .refine sr (mq ?_);refine aq (nt (cC ?_));refine bf (fV [4,5,36] ⟨rfl,rfl,rfl,trivial⟩) ?_;cases h;exact ra
def eo(k:Nat)(a2:Int)(e:(List Int)):Nat->Int->Option (Except ((List Int)×Bool) Unit)
 |0,_=>none
 |n+1,c=>
  if c < (e.length:Int) then((aK e c).bind λD=>
  if¬(D=a2) then((ck (c+1)).bind λy=>
  eo k a2 e n y) else(((if 0 < c then((ck (c - 1)).bind λx=>
  (aK e x).bind λl=>
  (bO (aZ (length ([]:(List Int))+length [l]))).bind λ_=>
  some (([]:(List Int))++[l])) else(some ([]:(List Int)))):Option ((List Int))).bind λh=>
  (((ck (c+1)).bind λs=>
  if s < (e.length:Int) then((ck (c+1)).bind λr=>
  (aK e r).bind λj=>
  (bO (aZ (length h+length [j]))).bind λ_=>
  some (h++[j])) else(some h)):Option ((List Int))).bind λu=>
  some (.error (u,true)))) else(some (.ok ()))
def eP(k:Nat)(a0:ab)(a1:Int)(a2:Int):Nat->Int->Option (Except ((List Int)×Bool) Unit)
 |0,_=>none
 |n+1,y4=>
  (aK a0.2.2.2.2.1 a1).bind λx6=>
  if y4 < (x6.length:Int) then(bE (α:=Unit) ((aK a0.2.2.2.2.1 a1).bind λx9=>
  (aK x9 y4).bind λh=>
  eo k a2 h k 0) (λe=>some (.error e)) λ_=>
  (ck (y4+1)).bind λc=>
  eP k a0 a1 a2 n c) else(some (.ok ()))
def ky(k:Nat)(a0:ab)(a1:Int)(a2:Int):Option ((List Int)×Bool):=
 bE (α:=Unit) (eP k a0 a1 a2 k 0) (some) λ_=>
 some (([]:(List Int)),false)
theorem rH(k:Nat)(a0:ab)(a1:Int)(a2:Int)(r:(List Int)×Bool)(h:ky k a0 a1 a2=some r):
 cT Tryz.prog 119 [.rep ah a0,I a1,I a2] [] (λ_:Unit=>(bn [.rep Tl r.1,.eq (.bool r.2)],[])):=by
 unfold ky at h
 replace h:=aY h
 refine cT.of 66 Tryz.func119 rfl Tryz.ntmps119 rfl λS w0=>?_
 refine sr ?_
 refine bx λb1=>?_
 refine cq ?_
 refine cq ?_
 refine nt ?_
 refine cF (Z:=Unit) (α:=Unit) (λz3 x2=>[]) (λz3 x2=>[]) (λe=>e=r) h (λe h=>Option.some.inj h) (λK hR h=>?_) (λz3 x2 h=>?_)
 .
  refine au ?_;refine ai (aF (λz5 y4=>[(1,I a1),(2,I a2),(3,Pt b1),(8,I y4)]) (λz5 y4=>[.obj b1 25 (.rep ah a0)]) (eP k a0 a1 a2) k () 0 (λ_=>rfl) h (SE.fin [0] ⟨rfl,rfl,rfl,rfl,trivial⟩ rfl) (λn z5 y4 h=>?_));unfold eP at h;refine au ?_;refine fl co ?_;refine lo fp ?_;refine mq ?_;obtain⟨x6,Ye,h⟩:=aa h;refine jb (aG (t:=(.slice Tl)) rfl pJ kT Ye) ?_;refine ja (ao (t:=(.slice Tl)) rfl kT rfl) ?_;refine ol nR ?_;refine jb (bj rfl) ?_;refine nt (ci h (λh=>?_) (λh=>?_))
  .refine sk (cF (Z:=Unit) (α:=Unit) (λz8 x7=>[(1,I a1),(2,I a2),(3,Pt b1),(8,I y4)]) (λz8 x7=>[.obj b1 25 (.rep ah a0)]) (λe=>e=r) h (λe h=>hR e h) (λK hR h=>?_) (λz8 x7 h=>?_))
   .refine ai (sr (fl co ?_));refine lo fp ?_;refine mq ?_;obtain⟨x9,Yd,h⟩:=aa h;refine jb (aG (t:=(.slice Tl)) rfl pJ kT Yd) ?_;refine ja (ao (t:=(.slice Tl)) rfl kT rfl) ?_;refine mq ?_;obtain⟨y,mc,h⟩:=aa h;refine jb (aG (t:=Tl) rfl nR eB mc) ?_;refine ja (ao (t:=Tl) rfl eB rfl) ?_;refine au ?_;refine ai (aF (λD s=>[(1,I a1),(2,I a2),(3,Pt b1),(8,I y4),(9,.rep Tl y),(10,I s)]) (λD s=>[.obj b1 25 (.rep ah a0)]) (eo k a2 y) k () 0 (λ_=>rfl) h (SE.fin [0] ⟨rfl,rfl,rfl,rfl,rfl,rfl,trivial⟩ rfl) (λn D s h=>?_));unfold eo at h;refine au ?_;refine ol gX ?_;refine jb (bj rfl) ?_;refine nt (ci h (λh=>?_) (λh=>?_))
    .refine au ?_;refine ai (au ?_);obtain⟨Yi,gw,h⟩:=aa h;refine jb (aG (t:=Ti) rfl gX bP gw) ?_;refine ja (ao (t:=Ti) rfl bP rfl) ?_;refine mq ?_;refine jb (dG rfl) ?_;refine nt (cn h (λh=>?_) (λh=>?_))
     .refine au ?_;refine ae (mq ?_);obtain⟨qt,Y,h⟩:=aa h;refine jb (be rfl Y) ?_;refine au ?_;exact jz ((),qt) h [0]
     .refine sk (sr (cq (nt ?_)));refine aJ (Z:=Value) (α:=(List Int)) (λc j=>[(9,.rep Tl y),(10,I s),(11,.eq c)]) (λc j=>[.sl c 3 Ti j]) h (λK h=>?_) (λc j h=>?_)
      .refine au ?_;refine jb (iq rfl) ?_;refine nt (ci h (λh=>?_) (λh=>?_))
       .refine ae (au ?_);obtain⟨Yh,X,h⟩:=aa h;refine jb (eC rfl X) ?_;obtain⟨F,U,h⟩:=aa h;refine jb (aG (t:=Ti) rfl gX bP U) ?_;refine ja (ao (t:=Ti) rfl bP rfl) ?_;refine ja (aX (t:=Ti) [(.tmp 49,_)] [F] rfl rfl cX (.cons rfl .int .nil) rfl rfl) ?_;refine dQ (SE.nil 3 Ti) ?_;obtain⟨Yk,mw,h⟩:=aa h;refine cI rfl rfl rfl (bg rfl rfl cX (ap mw)) ⟨rfl,rfl,trivial⟩ λzM=>?_;refine au ?_;exact jz (zM,([]:(List Int))++[F]) h [0]
       .refine iU (aH (bf (SE.nil 3 Ti) ?_));exact jz ((.slice none 0 0),([]:(List Int))) h [0]
      .refine aJ (Z:=Value) (α:=(List Int)) (λl u=>[(11,.eq l)]) (λl u=>[.sl l 3 Ti u]) h (λK h=>?_) (λl u h=>?_)
       .refine au ?_;obtain⟨Yg,Q,h⟩:=aa h;refine jb (be rfl Q) ?_;refine mq ?_;refine ol gX ?_;refine jb (bj rfl) ?_;refine nt (ci h (λh=>?_) (λh=>?_))
        .refine ae (au ?_);obtain⟨Yf,O,h⟩:=aa h;refine jb (be rfl O) ?_;obtain⟨E,M,h⟩:=aa h;refine jb (aG (t:=Ti) rfl gX bP M) ?_;refine ja (ao (t:=Ti) rfl bP rfl) ?_;refine ja (aX (t:=Ti) [(.tmp 62,_)] [E] rfl rfl cX (.cons rfl .int .nil) rfl rfl) ?_;obtain⟨Yj,mt,h⟩:=aa h;refine cI rfl rfl rfl (bg rfl rfl cX (ap mt)) ⟨rfl,rfl,trivial⟩ λzz=>?_;refine au ?_;exact jz (zz,j++[E]) h [0]
        .refine au ?_;exact jz (c,j) h [0]
       .refine sr (mq ?_);refine aq ?_;refine cq (nt (cC (br (kj (br (kj (jH ?_)))))));refine bf (fV [6,11,65] ⟨rfl,rfl,rfl,trivial⟩) ?_;obtain rfl:=hR _ h;exact rb
    .refine au ?_;exact jz ((),()) h [0]
   .refine ae (mq ?_);obtain⟨pq,J,h⟩:=aa h;refine jb (be rfl J) ?_;refine au ?_;exact jz ((),pq) h [0]
  .refine au ?_;exact jz ((),()) h []
 .
  refine sr (cq ?_);refine cq (nt (cC ?_));refine bf (eN (t:=Tl) (x:=([]:(List Int))) 6 rfl .nil rfl rfl) ?_;cases h;exact rb
def fx(k:Nat)(a0:ab)(a2:Int):Nat->(Int×Int)->Option (Except Int Int)
 |0,_=>none
 |n+1,y4=>
  if 0≤y4.2 then((ky k a0 y4.2 a2).bind λr6=>
  if r6.2=true then(some (.error y4.1)) else((ck (y4.1+1)).bind λx7=>
  (ck (y4.2 - 1)).bind λx8=>
  fx k a0 a2 n (x7,x8))) else(some (.ok y4.1))
def qd(k:Nat)(a0:ab)(a1:Int)(a2:Int):Option Int:=
 bE (α:=Int) (fx k a0 a2 k (0,a1)) (some) λx2=>
 some x2
theorem BB(k:Nat)(a0:ab)(a1:Int)(a2:Int)(r:Int)(h:qd k a0 a1 a2=some r):
 cT Tryz.prog 120 [.rep ah a0,I a1,I a2] [] (λ_:Unit=>(bn [I r],[])):=by
 unfold qd at h
 replace h:=aY h
 refine cT.of 28 Tryz.func120 rfl Tryz.ntmps120 rfl λS w0=>?_
 refine sr ?_
 refine bx λb1=>?_
 refine cq ?_
 refine nt ?_
 refine sr ?_
 refine cq ?_
 refine nt ?_
 refine cF (Z:=Unit) (α:=Int) (λz3 x2=>[(7,I x2)]) (λz3 x2=>[]) (λe=>e=r) h (λe h=>Option.some.inj h) (λK hR h=>?_) (λz3 x2 h=>?_)
 .
  refine au ?_;refine ai (aF (λz5 y4=>[(2,I a2),(3,Pt b1),(7,I y4.1),(8,I y4.2)]) (λz5 y4=>[.obj b1 25 (.rep ah a0)]) (fx k a0 a2) k () (0,a1) (λ_=>rfl) h (SE.fin [0] ⟨rfl,rfl,rfl,rfl,trivial⟩ rfl) (λn z5 y4 h=>?_));unfold fx at h;refine au ?_;refine jb (i9 rfl) ?_;refine nt (ci h (λh=>?_) (λh=>?_))
  .refine au ?_;refine ai (au ?_);refine lo bB ?_;refine au ?_;obtain⟨r6,l,h⟩:=aa h;refine jc (ax [.tmp 17,.tmp 18,.tmp 19] rfl rfl Qj rfl (rH k a0 y4.2 a2 r6 l)) ?_;refine au ?_;refine cv h (λh=>?_) (λh=>?_)
   .refine au ?_;obtain rfl:=hR _ h;exact ra
   .refine sk (ae (mq ?_));obtain⟨x7,j,h⟩:=aa h;refine jb (be rfl j) ?_;refine au ?_;refine ae (mq ?_);obtain⟨x8,c,h⟩:=aa h;refine jb (eC rfl c) ?_;refine au ?_;exact jz ((),(x7,x8)) h [0]
  .refine au ?_;exact jz ((),y4.1) h []
 .
  refine au ?_;cases h;exact ra
def gh(k:Nat)(a0:ab)(a2:(List Int))(r8:(List Int)×Bool):Nat->(Int×Int)->Option Int
 |0,_=>none
 |n+1,c=>
  if c.2 < (r8.1.length:Int) then((((aK r8.1 c.2).bind λj=>
  (aK a2 j).bind λh=>
  if a0.2.1≤h then(some 0) else(some c.1)):Option (Int)).bind λl=>
  (ck (c.2+1)).bind λe=>
  gh k a0 a2 r8 n (l,e)) else(some c.1)
def gi(k:Nat)(a0:ab)(a1:Int)(a2:(List Int)):Nat->((List Int)×Int)->Option (List Int)
 |0,_=>none
 |n+1,y4=>
  if y4.2 < a0.1 then((((ky k a0 a1 y4.2).bind λr8=>
  ((if¬(r8.2=true) then((qd k a0 a1 y4.2).bind λs=>
  some (decide (a0.2.2.2.1≤s))) else(some false)):Option (Bool)).bind λx9=>
  if x9=true then((bO (aZ (length y4.1+length [(-1:Int)]))).bind λ_=>
  some (y4.1++[(-1:Int)])) else(if¬(r8.2=true) then((aK a2 y4.2).bind λh=>
  (bO (aZ (length y4.1+length [h]))).bind λ_=>
  some (y4.1++[h])) else((aK a2 y4.2).bind λr=>
  if 0≤r then((aK a2 y4.2).bind λl=>
  (ck (l+1)).bind λe=>
  (bO (aZ (length y4.1+length [e]))).bind λ_=>
  some (y4.1++[e])) else(((gh k a0 a2 r8 k ((-1:Int),0)):Option (Int)).bind λc=>
  (bO (aZ (length y4.1+length [c]))).bind λ_=>
  some (y4.1++[c]))))):Option ((List Int))).bind λx6=>
  (ck (y4.2+1)).bind λj=>
  gi k a0 a1 a2 n (x6,j)) else(some y4.1)
def qc(k:Nat)(a0:ab)(a1:Int)(a2:(List Int)):Option (List Int):=
 ((gi k a0 a1 a2 k (([]:(List Int)),0)):Option ((List Int))).bind λx2=>
 some x2
theorem BA(k:Nat)(a0:ab)(a1:Int)(a2:(List Int))(r:(List Int))(h:qc k a0 a1 a2=some r):
 cT Tryz.prog 96 [.rep ah a0,I a1,.rep Tl a2] [] (λ_:Unit=>(bn [.rep Tl r],[])):=by
 unfold qc at h
 replace h:=aY h
 refine cT.of 86 Tryz.func96 rfl Tryz.ntmps96 rfl λS w0=>?_
 refine sr ?_
 refine bx λb1=>?_
 refine cq ?_
 refine nt ?_
 refine sr ?_
 refine cq ?_
 refine nt ?_
 refine aJ (Z:=Value) (α:=(List Int)) (λz3 x2=>[(7,.eq z3)]) (λz3 x2=>[.sl z3 3 Ti x2]) h (λK h=>?_) (λz3 x2 h=>?_)
 .
  refine au ?_;refine ai (ia (SE.nil 3 Ti) ?_);refine aF (λz5 y4=>[(1,I a1),(2,.rep Tl a2),(3,Pt b1),(7,.eq z5),(8,I y4.2)]) (λz5 y4=>[.obj b1 25 (.rep ah a0),.sl z5 3 Ti y4.1]) (gi k a0 a1 a2) k (.slice none 0 0) (([]:(List Int)),0) (λ_=>rfl) h (SE.fin [1,0] ⟨rfl,rfl,rfl,rfl,rfl,trivial⟩ rfl) (λn z5 y4 h=>?_);unfold gi at h;refine au ?_;refine fl ff ?_;refine lo bP ?_;refine jb (bj rfl) ?_;refine nt (ci h (λh=>?_) (λh=>?_))
  .refine sk (aJ (Z:=Value) (α:=(List Int)) (λz7 x6=>[(1,I a1),(2,.rep Tl a2),(3,Pt b1),(7,.eq z7),(8,I y4.2)]) (λz7 x6=>[.obj b1 25 (.rep ah a0),.sl z7 3 Ti x6]) h (λK h=>?_) (λz7 x6 h=>?_))
   .refine ai (sr (lo bB ?_));refine au ?_;obtain⟨r8,Yg,h⟩:=aa h;refine jc (ax [.tmp 20,.tmp 21,.tmp 22] rfl rfl Qj rfl (rH k a0 a1 y4.2 r8 Yg)) ?_;refine au ?_;refine ai (aJ (Z:=Unit) (α:=Bool) (λx x9=>[(1,I a1),(2,.rep Tl a2),(3,Pt b1),(7,.eq z5),(8,I y4.2),(9,.rep Tl r8.1),(10,.eq (.bool r8.2)),(46,.eq (.bool x9))]) (λx x9=>[.obj b1 25 (.rep ah a0),.sl z5 3 Ti y4.1]) h (λK h=>?_) (λx x9 h=>?_))
    .refine bD ?_;refine dm ?_;refine da (eQ rfl) ?_;refine lY rfl rfl rfl (aP rfl) ⟨rfl,trivial⟩ (λhb=>?_) (λhb=>?_)
     .replace h:=dY (ti hb) h;refine fW 0 rfl rfl rfl rfl rfl rfl (ak rfl bB (kB) rfl) ⟨rfl,rfl,trivial⟩ ?_;refine bo rfl rfl rfl rfl rfl (aP rfl) ⟨rfl,rfl,trivial⟩ ?_;refine bo rfl rfl rfl rfl rfl (aP rfl) ⟨rfl,rfl,trivial⟩ ?_;obtain⟨E,pq,h⟩:=aa h;refine bo rfl rfl rfl rfl rfl (ax [.tmp 50,.tmp 51,.tmp 52] rfl rfl Vp rfl (BB k a0 a1 y4.2 E pq)) ⟨rfl,rfl,rfl,rfl,trivial⟩ ?_;refine bo rfl rfl rfl rfl rfl (av rfl uF) ⟨rfl,rfl,trivial⟩ ?_;refine fW 0 rfl rfl rfl rfl rfl rfl (ak rfl bP iV rfl) ⟨rfl,rfl,trivial⟩ ?_;refine df cy ?_;refine gb (i9 rfl) ?_;refine au ?_;exact jz ((),decide (a0.2.2.2.1≤E)) h [0,1]
     .replace h:=cz (nC hb) h;iterate 6 refine dg ?_
      refine df cy ?_;refine au ?_;exact jz ((),false) h [0,1]
    .refine cv h (λh=>?_) (λh=>?_)
     .refine ae (mq ?_);refine ja (aX (t:=Ti) [(.const (.int .i64 (-1)),_)] [(-1:Int)] rfl rfl cX (.cons rfl .int .nil) rfl rfl) ?_;obtain⟨Yo,mw,h⟩:=aa h;refine fr 1 ?_;refine cI rfl rfl rfl (bg rfl rfl cX (ap mw)) ⟨rfl,rfl,trivial⟩ λYf=>?_;refine au ?_;exact jz (Yf,y4.1++[(-1:Int)]) h [1,0]
     .refine au ?_;refine ja (eQ rfl) ?_;refine au ?_;refine cw h (λh=>?_) (λh=>?_)
      .refine ae (au ?_);obtain⟨D,Y,h⟩:=aa h;refine jb (aG (t:=Ti) rfl gX bP Y) ?_;refine ja (ao (t:=Ti) rfl bP rfl) ?_;refine ja (aX (t:=Ti) [(.tmp 68,_)] [D] rfl rfl cX (.cons rfl .int .nil) rfl rfl) ?_;obtain⟨Yn,mt,h⟩:=aa h;refine fr 1 ?_;refine cI rfl rfl rfl (bg rfl rfl cX (ap mt)) ⟨rfl,rfl,trivial⟩ λYe=>?_;refine au ?_;exact jz (Ye,y4.1++[D]) h [1,0]
      .refine au ?_;obtain⟨Yk,X,h⟩:=aa h;refine jb (aG (t:=Ti) rfl gX bP X) ?_;refine ja (ao (t:=Ti) rfl bP rfl) ?_;refine jb (i9 rfl) ?_;refine au ?_;refine ci h (λh=>?_) (λh=>?_)
       .refine ae (au ?_);obtain⟨Yj,U,h⟩:=aa h;refine jb (aG (t:=Ti) rfl gX bP U) ?_;refine ja (ao (t:=Ti) rfl bP rfl) ?_;obtain⟨y,Q,h⟩:=aa h;refine jb (be rfl Q) ?_;refine ja (aX (t:=Ti) [(.tmp 82,_)] [y] rfl rfl cX (.cons rfl .int .nil) rfl rfl) ?_;obtain⟨Ym,mc,h⟩:=aa h;refine fr 1 ?_;refine cI rfl rfl rfl (bg rfl rfl cX (ap mc)) ⟨rfl,rfl,trivial⟩ λYd=>?_;refine au ?_;exact jz (Yd,y4.1++[y]) h [1,0]
       .refine sr (cq (nt ?_));refine aJ (Z:=Unit) (α:=Int) (λu e=>[(1,I a1),(2,.rep Tl a2),(3,Pt b1),(7,.eq z5),(8,I y4.2),(11,I e)]) (λu e=>[.obj b1 25 (.rep ah a0),.sl z5 3 Ti y4.1]) h (λK h=>?_) (λu e h=>?_)
        .refine au ?_;refine ai (aF (λs c=>[(1,I a1),(2,.rep Tl a2),(3,Pt b1),(7,.eq z5),(8,I y4.2),(9,.rep Tl r8.1),(11,I c.1),(12,I c.2)]) (λs c=>[.obj b1 25 (.rep ah a0),.sl z5 3 Ti y4.1]) (gh k a0 a2 r8) k () ((-1:Int),0) (λ_=>rfl) h (SE.fin [0,1] ⟨rfl,rfl,rfl,rfl,rfl,rfl,rfl,rfl,trivial⟩ rfl) (λn s c h=>?_));unfold gh at h;refine au ?_;refine ol gX ?_;refine jb (bj rfl) ?_;refine nt (ci h (λh=>?_) (λh=>?_))
         .refine sk (aJ (Z:=Unit) (α:=Int) (λl j=>[(1,I a1),(2,.rep Tl a2),(3,Pt b1),(7,.eq z5),(8,I y4.2),(9,.rep Tl r8.1),(11,I j),(12,I c.2)]) (λl j=>[.obj b1 25 (.rep ah a0),.sl z5 3 Ti y4.1]) h (λK h=>?_) (λl j h=>?_))
          .refine ai (bC (bD ?_));refine dm ?_;refine dm ?_;refine dm ?_;obtain⟨Yi,O,h⟩:=aa h;refine db (aG (t:=Ti) rfl gX bP O) ?_;refine da (ao (t:=Ti) rfl bP rfl) ?_;obtain⟨Yh,M,h⟩:=aa h;refine db (aG (t:=Ti) rfl gX bP M) ?_;refine da (ao (t:=Ti) rfl bP rfl) ?_;refine da (av rfl qD) ?_;refine ea 0 (ak rfl bP iV rfl) ?_;refine df cy ?_;refine jb (i9 rfl) ?_;refine nt (ci h (λh=>?_) (λh=>?_))
           .refine ae (au ?_);exact jz ((),0) h [0,1]
           .refine au ?_;exact jz ((),c.1) h [0,1]
          .refine ae (mq ?_);obtain⟨zz,J,h⟩:=aa h;refine jb (be rfl J) ?_;refine au ?_;exact jz ((),(j,zz)) h [0,1]
         .refine au ?_;exact jz ((),c.1) h [0,1]
        .refine ae (au ?_);refine ja (aX (t:=Ti) [(.tmp 43,_)] [e] rfl rfl cX (.cons rfl .int .nil) rfl rfl) ?_;obtain⟨Yl,gw,h⟩:=aa h;refine fr 1 ?_;refine cI rfl rfl rfl (bg rfl rfl cX (ap gw)) ⟨rfl,rfl,trivial⟩ λzM=>?_;refine au ?_;exact jz (zM,y4.1++[e]) h [1,0]
   .refine ae (mq ?_);obtain⟨qt,F,h⟩:=aa h;refine jb (be rfl F) ?_;refine au ?_;exact jz (z7,(x6,qt)) h [0,1]
  .refine au ?_;exact jz (z5,y4.1) h [1]
 .
  refine sr (mq ?_);refine aq (nt (cC ?_));refine bf (fV [6,7,85] ⟨rfl,rfl,rfl,trivial⟩) ?_;cases h;exact ra
def gp(k:Nat)(a0:ab)(a1:(List Int)):Nat->((List Int)×Int)->Option (List Int)
 |0,_=>none
 |n+1,y4=>
  if y4.2 < a0.1 then((((oR k a1 y4.2).bind λr8=>
  if r8=true then((bO (aZ (length y4.1+length [a0.2.1]))).bind λ_=>
  some (y4.1++[a0.2.1])) else((bO (aZ (length y4.1+length [(-1:Int)]))).bind λ_=>
  some (y4.1++[(-1:Int)]))):Option ((List Int))).bind λx6=>
  (ck (y4.2+1)).bind λc=>
  gp k a0 a1 n (x6,c)) else(some y4.1)
def gk(k:Nat)(a0:ab):Nat->((List (List Int))×Int)->Option (List (List Int))
 |0,_=>none
 |n+1,c=>
  if c.2 < (a0.2.2.2.2.1.length:Int) then((aK c.1 c.2).bind λj=>
  (qc k a0 c.2 j).bind λe=>
  (bO (aZ (length c.1+length [e]))).bind λ_=>
  (ck (c.2+1)).bind λh=>
  gk k a0 n (c.1++[e],h)) else(some c.1)
def qf(k:Nat)(a0:ab)(a1:(List Int)):Option (List (List Int)):=
 ((gp k a0 a1 k (([]:(List Int)),0)):Option ((List Int))).bind λx2=>
 ((gk k a0 k ([x2],0)):Option ((List (List Int)))).bind λc=>
 some c
theorem BE(k:Nat)(a0:ab)(a1:(List Int))(r:(List (List Int)))(h:qf k a0 a1=some r):
 cT Tryz.prog 70 [.rep ah a0,.rep Tl a1] [] (λ_:Unit=>(bn [.rep (.slice Tl) r],[])):=by
 unfold qf at h
 replace h:=aY h
 refine cT.of 46 Tryz.func70 rfl Tryz.ntmps70 rfl λS w0=>?_
 refine sr ?_
 refine bx λb1=>?_
 refine cq ?_
 refine nt ?_
 refine sr ?_
 refine cq ?_
 refine nt ?_
 refine aJ (Z:=Value) (α:=(List Int)) (λz3 x2=>[(2,Pt b1),(5,.eq z3)]) (λz3 x2=>[.obj b1 25 (.rep ah a0),.sl z3 3 Ti x2]) h (λK h=>?_) (λz3 x2 h=>?_)
 .
  refine au ?_;refine ai (ia (SE.nil 3 Ti) ?_);refine aF (λz5 y4=>[(1,.rep Tl a1),(2,Pt b1),(5,.eq z5),(6,I y4.2)]) (λz5 y4=>[.obj b1 25 (.rep ah a0),.sl z5 3 Ti y4.1]) (gp k a0 a1) k (.slice none 0 0) (([]:(List Int)),0) (λ_=>rfl) h (SE.fin [1,0] ⟨rfl,rfl,rfl,rfl,trivial⟩ rfl) (λn z5 y4 h=>?_);unfold gp at h;refine au ?_;refine fl ff ?_;refine lo bP ?_;refine jb (bj rfl) ?_;refine nt (ci h (λh=>?_) (λh=>?_))
  .refine sk (aJ (Z:=Value) (α:=(List Int)) (λz7 x6=>[(1,.rep Tl a1),(2,Pt b1),(5,.eq z7),(6,I y4.2)]) (λz7 x6=>[.obj b1 25 (.rep ah a0),.sl z7 3 Ti x6]) h (λK h=>?_) (λz7 x6 h=>?_))
   .refine ai (au ?_);obtain⟨r8,mc,h⟩:=aa h;refine jb (ax [.tmp 15,.tmp 16] rfl rfl RY rfl (rW k a1 y4.2 r8 mc)) ?_;refine nt (cv h (λh=>?_) (λh=>?_))
    .refine ae (mq ?_);refine fl qD ?_;refine lo bP ?_;refine ja (aX (t:=Ti) [(.tmp 20,_)] [a0.2.1] rfl rfl cX (.cons rfl .int .nil) rfl rfl) ?_;obtain⟨u9,gw,h⟩:=aa h;refine fr 1 ?_;refine cI rfl rfl rfl (bg rfl rfl cX (ap gw)) ⟨rfl,rfl,trivial⟩ λY=>?_;refine au ?_;exact jz (Y,y4.1++[a0.2.1]) h [1,0]
    .refine ae (mq ?_);refine ja (aX (t:=Ti) [(.const (.int .i64 (-1)),_)] [(-1:Int)] rfl rfl cX (.cons rfl .int .nil) rfl rfl) ?_;obtain⟨mw,E,h⟩:=aa h;refine fr 1 ?_;refine cI rfl rfl rfl (bg rfl rfl cX (ap E)) ⟨rfl,rfl,trivial⟩ λX=>?_;refine au ?_;exact jz (X,y4.1++[(-1:Int)]) h [1,0]
   .refine ae (mq ?_);obtain⟨O,y,h⟩:=aa h;refine jb (be rfl y) ?_;refine au ?_;exact jz (z7,(x6,O)) h [0,1]
  .refine au ?_;exact jz (z5,y4.1) h [0,1]
 .
  refine sr (mq ?_);refine fr 1 ?_;refine dQ (fV [5,26] ⟨rfl,rfl,trivial⟩) ?_;refine aQ rfl rfl rfl (fQ (t:=Tl) [(.tmp 26,_)] [x2] rfl rfl kU (.cons rfl .rep .nil) rfl rfl) ⟨rfl,trivial⟩ λU=>?_;refine aq (nt ?_);refine aJ (Z:=Value) (α:=(List (List Int))) (λj s=>[(7,.eq j)]) (λj s=>[.sl j 28 Tl s]) h (λK h=>?_) (λj s h=>?_)
  .refine au ?_;refine ai (aF (λe c=>[(2,Pt b1),(7,.eq e),(8,I c.2)]) (λe c=>[.obj b1 25 (.rep ah a0),.sl e 28 Tl c.1]) (gk k a0) k U ([x2],0) (λ_=>rfl) h (SE.fin [1,0] ⟨rfl,rfl,rfl,trivial⟩ rfl) (λn e c h=>?_));unfold gk at h;refine au ?_;refine fl co ?_;refine lo fp ?_;refine ol pJ ?_;refine jb (bj rfl) ?_;refine nt (ci h (λh=>?_) (λh=>?_))
   .refine au ?_;refine ai (bD ?_);refine dm ?_;refine ea 0 (ak rfl bB (kB) rfl) ?_;refine dm ?_;refine dm ?_;refine dm ?_;obtain⟨M,l,h⟩:=aa h;refine eb 1 (cM (t:=Tl) rfl nR eB l) ?_;refine ea 1 (ig (i:=Int.toNat c.2) (off:=0) rfl eB (λ_=>rfl) rfl (dR l).2.2 rfl) ?_;obtain⟨u,F,h⟩:=aa h;refine dc (ax [.tmp 36,.tmp 37,.tmp 41] rfl rfl WO rfl (BA k a0 c.2 M u F)) ?_;refine da (aX (t:=Tl) [(.tmp 42,_)] [u] rfl rfl kU (.cons rfl .rep .nil) rfl rfl) ?_;refine df cy ?_;obtain⟨mt,D,h⟩:=aa h;refine fr 1 ?_;refine cI rfl rfl rfl (bg rfl rfl kU (ap D)) ⟨rfl,rfl,trivial⟩ λQ=>?_;refine au ?_;refine ae (mq ?_);obtain⟨J,x,h⟩:=aa h;refine jb (be rfl x) ?_;refine au ?_;exact jz (Q,(c.1++[u],J)) h [1,0]
   .refine au ?_;exact jz (e,c.1) h [1]
  .refine sr (mq ?_);refine aq (nt (cC ?_));refine bf (fV [4,7,45] ⟨rfl,rfl,rfl,trivial⟩) ?_;cases h;exact ra
def oh(k:Nat)(a0:ab)(a1:(List (List Int)))(a2:aC):Option Bool:=
 (aK a1 a2.2.1).bind λx3=>
 (aK x3 a2.1).bind λx4=>
 some (decide (a2.2.2=(decide (a0.2.2.1≤x4))))
theorem zG(k:Nat)(a0:ab)(a1:(List (List Int)))(a2:aC)(r:Bool)(h:oh k a0 a1 a2=some r):
 cT Tryz.prog 72 [.rep ah a0,.rep (.slice Tl) a1,.rep aA a2] [] (λ_:Unit=>(bn [.eq (.bool r)],[])):=by
 unfold oh at h
 replace h:=aY h
 refine cT.of 22 Tryz.func72 rfl Tryz.ntmps72 rfl λS w0=>?_
 refine sr ?_
 refine bx λb1=>?_
 refine bx λb2=>?_
 refine au ?_
 refine bD ?_
 refine da (av rfl KJ) ?_
 refine ea 0 (ak rfl XI iV rfl) ?_
 refine dm ?_
 refine da (av rfl An) ?_
 refine ea 0 (ak rfl bP iV rfl) ?_
 obtain⟨x3,e,h⟩:=aa h
 refine db (aG (t:=Tl) rfl nR eB e) ?_
 refine da (ao (t:=Tl) rfl eB rfl) ?_
 refine da (av rfl Ao) ?_
 refine ea 0 (ak rfl bP iV rfl) ?_
 obtain⟨x4,c,h⟩:=aa h
 refine db (aG (t:=Ti) rfl gX bP c) ?_
 refine da (ao (t:=Ti) rfl bP rfl) ?_
 refine da (av rfl sL) ?_
 refine ea 1 (ak rfl bP iV rfl) ?_
 refine db (i9 rfl) ?_
 refine df cy ?_
 refine jb (Rr rfl U4) ?_
 refine au ?_
 cases h
 exact ra
def dh(k:Nat)(a0:ab)(a1:(List Int))(e:(List (List Int))):Nat->(Bool×Int)->Option Bool
 |0,_=>none
 |n+1,c=>
  if c.2 < (a0.2.2.2.2.2.length:Int) then(((if c.1=true then((oR k a1 c.2).bind λs=>
  if s=true then(some true) else((aK a0.2.2.2.2.2 c.2).bind λj=>
  (oh k a0 e j).bind λr=>
  some r)) else(some false)):Option (Bool)).bind λl=>
  (ck (c.2+1)).bind λh=>
  dh k a0 a1 e n (l,h)) else(some c.1)
def dD(k:Nat)(a0:ab)(a1:(List Int))(r2:(List (List Int))):Nat->((List (List Int))×Int)->Option (List (List Int))
 |0,_=>none
 |n+1,y5=>
  if y5.2 < (r2.length:Int) then((((aK r2 y5.2).bind λx9=>
  (qf k a0 x9).bind λj=>
  ((dh k a0 a1 j k (true,0)):Option (Bool)).bind λh=>
  if h=true then((aK r2 y5.2).bind λc=>
  (bO (aZ (length y5.1+length [c]))).bind λ_=>
  some (y5.1++[c])) else(some y5.1)):Option ((List (List Int)))).bind λx7=>
  (ck (y5.2+1)).bind λe=>
  dD k a0 a1 r2 n (x7,e)) else(some y5.1)
def fP(k:Nat)(a0:ab)(a1:(List Int)):Option (List (List Int)):=
 (lQ k k a0.1 ([]:(List Int))).bind λr2=>
 ((dD k a0 a1 r2 k (([]:(List (List Int))),0)):Option ((List (List Int)))).bind λx3=>
 some x3
theorem kx(k:Nat)(a0:ab)(a1:(List Int))(r:(List (List Int)))(h:fP k a0 a1=some r):
 cT Tryz.prog 34 [.rep ah a0,.rep Tl a1] [] (λ_:Unit=>(bn [.rep (.slice Tl) r],[])):=by
 unfold fP at h
 replace h:=aY h
 refine cT.of 58 Tryz.func34 rfl Tryz.ntmps34 rfl λS w0=>?_
 refine sr ?_
 refine bx λb1=>?_
 refine au ?_
 refine fl ff ?_
 refine lo bP ?_
 obtain⟨r2,zz,h⟩:=aa h
 have zM:=D7 k k a0.1 ([]:(List Int)) r2 zz
 refine jb (bv (N:=[(.tmp 12,I a0.1),(.const (.slice none 0 0),.eq (.slice none 0 0))]) (ax [.tmp 12,.const (.slice none 0 0)] rfl rfl UY rfl zM) λ_ _ _ hn=>⟨hn.1,(aE (t:=Tl) (x:=([]:(List Int))) .nil rfl rfl hn.2.1),trivial⟩) ?_
 refine aq ?_
 refine nt ?_
 refine aJ (Z:=Value) (α:=(List (List Int))) (λz4 x3=>[(5,.eq z4)]) (λz4 x3=>[.sl z4 28 Tl x3]) h (λK h=>?_) (λz4 x3 h=>?_)
 .
  refine au ?_;refine ai (ia (SE.nil 28 Tl) ?_);refine aF (λz6 y5=>[(1,.rep Tl a1),(2,Pt b1),(5,.eq z6),(6,.rep (.slice Tl) r2),(7,I y5.2)]) (λz6 y5=>[.obj b1 25 (.rep ah a0),.sl z6 28 Tl y5.1]) (dD k a0 a1 r2) k (.slice none 0 0) (([]:(List (List Int))),0) (λ_=>rfl) h (SE.fin [1,0] ⟨rfl,rfl,rfl,rfl,rfl,trivial⟩ rfl) (λn z6 y5 h=>?_);unfold dD at h;refine au ?_;refine ol nR ?_;refine jb (bj rfl) ?_;refine nt (ci h (λh=>?_) (λh=>?_))
  .refine sk (aJ (Z:=Value) (α:=(List (List Int))) (λz8 x7=>[(1,.rep Tl a1),(2,Pt b1),(5,.eq z8),(6,.rep (.slice Tl) r2),(7,I y5.2)]) (λz8 x7=>[.obj b1 25 (.rep ah a0),.sl z8 28 Tl x7]) h (λK h=>?_) (λz8 x7 h=>?_))
   .refine ai (bC (bD ?_));refine ea 0 (ak rfl bB (kB) rfl) ?_;refine dm ?_;refine dm ?_;obtain⟨x9,qt,h⟩:=aa h;refine db (aG (t:=Tl) rfl nR eB qt) ?_;refine da (ao (t:=Tl) rfl eB rfl) ?_;refine df cy ?_;obtain⟨e,Y,h⟩:=aa h;refine jb (ax [.tmp 20,.tmp 24] rfl rfl WZ rfl (BE k a0 x9 e Y)) ?_;refine aq ?_;refine cq (nt ?_);refine aJ (Z:=Unit) (α:=Bool) (λy l=>[(1,.rep Tl a1),(2,Pt b1),(5,.eq z6),(6,.rep (.slice Tl) r2),(7,I y5.2),(9,.eq (.bool l))]) (λy l=>[.obj b1 25 (.rep ah a0),.sl z6 28 Tl y5.1]) h (λK h=>?_) (λy l h=>?_)
    .refine au ?_;refine ai (aF (λu c=>[(1,.rep Tl a1),(2,Pt b1),(5,.eq z6),(6,.rep (.slice Tl) r2),(7,I y5.2),(8,.rep (.slice Tl) e),(9,.eq (.bool c.1)),(10,I c.2)]) (λu c=>[.obj b1 25 (.rep ah a0),.sl z6 28 Tl y5.1]) (dh k a0 a1 e) k () (true,0) (λ_=>rfl) h (SE.fin [0,1] ⟨rfl,rfl,rfl,rfl,rfl,rfl,rfl,rfl,trivial⟩ rfl) (λn u c h=>?_));unfold dh at h;refine au ?_;refine fl dA ?_;refine lo jw ?_;refine ol vh ?_;refine jb (bj rfl) ?_;refine nt (ci h (λh=>?_) (λh=>?_))
     .refine sk (aJ (Z:=Unit) (α:=Bool) (λs j=>[(1,.rep Tl a1),(2,Pt b1),(5,.eq z6),(6,.rep (.slice Tl) r2),(7,I y5.2),(8,.rep (.slice Tl) e),(9,.eq (.bool j)),(10,I c.2)]) (λs j=>[.obj b1 25 (.rep ah a0),.sl z6 28 Tl y5.1]) h (λK h=>?_) (λs j h=>?_))
      .refine ai (bD ?_);refine dm ?_;refine lY rfl rfl rfl (aP rfl) ⟨rfl,trivial⟩ (λhb=>?_) (λhb=>?_)
       .replace h:=dY (Me hb) h;refine bo rfl rfl rfl rfl rfl (aP rfl) ⟨rfl,rfl,trivial⟩ ?_;refine bo rfl rfl rfl rfl rfl (aP rfl) ⟨rfl,rfl,trivial⟩ ?_;obtain⟨pq,X,h⟩:=aa h;refine bo rfl rfl rfl rfl rfl (ax [.tmp 35,.tmp 36] rfl rfl RY rfl (rW k a1 c.2 pq X)) ⟨rfl,rfl,rfl,trivial⟩ ?_;refine L6 rfl rfl rfl rfl rfl (aP rfl) ⟨rfl,rfl,trivial⟩ (λhb=>?_) (λhb=>?_)
        .replace h:=dY (Me hb) h;iterate 7 refine dg ?_
         refine df cy ?_;refine gn ?_;refine gb (kV rfl) ?_;refine au ?_;exact jz ((),true) h [0,1]
        .replace h:=cz (MA hb) h;refine fW 0 rfl rfl rfl rfl rfl rfl (ak rfl bB (kB) rfl) ⟨rfl,rfl,trivial⟩ ?_;refine bo rfl rfl rfl rfl rfl (aP rfl) ⟨rfl,rfl,trivial⟩ ?_;refine bo rfl rfl rfl rfl rfl (av rfl dA) ⟨rfl,rfl,trivial⟩ ?_;refine fW 0 rfl rfl rfl rfl rfl rfl (ak rfl jw iV rfl) ⟨rfl,rfl,trivial⟩ ?_;refine bo rfl rfl rfl rfl rfl (aP rfl) ⟨rfl,rfl,trivial⟩ ?_;obtain⟨mt,O,h⟩:=aa h;refine bo rfl rfl rfl rfl rfl (aG (t:=aA) rfl vh ix O) ⟨rfl,rfl,rfl,trivial⟩ ?_;refine bo rfl rfl rfl rfl rfl (ao (t:=aA) rfl ix rfl) ⟨rfl,rfl,trivial⟩ ?_;refine df cy ?_;obtain⟨E,U,h⟩:=aa h;refine gc (ax [.tmp 39,.tmp 40,.tmp 45] rfl rfl WY rfl (zG k a0 e mt E U)) ?_;refine gb (qi rfl) ?_;refine au ?_;exact jz ((),E) h [0,1]
       .replace h:=cz (MA hb) h;iterate 4 refine dg ?_
        refine du ?_;refine du ?_;refine du ?_;refine du ?_;refine du ?_;refine du ?_;refine du ?_;refine df cy ?_;refine au ?_;exact jz ((),false) h [0,1]
      .refine ae (mq ?_);obtain⟨mc,M,h⟩:=aa h;refine jb (be rfl M) ?_;refine au ?_;exact jz ((),(j,mc)) h [0,1]
     .refine au ?_;exact jz ((),c.1) h [0,1]
    .refine au ?_;refine cv h (λh=>?_) (λh=>?_)
     .refine ae (au ?_);obtain⟨D,J,h⟩:=aa h;refine jb (aG (t:=Tl) rfl nR eB J) ?_;refine ja (ao (t:=Tl) rfl eB rfl) ?_;refine ja (aX (t:=Tl) [(.tmp 54,_)] [D] rfl rfl kU (.cons rfl .rep .nil) rfl rfl) ?_;obtain⟨Yd,Q,h⟩:=aa h;refine fr 1 ?_;refine cI rfl rfl rfl (bg rfl rfl kU (ap Q)) ⟨rfl,rfl,trivial⟩ λmw=>?_;refine au ?_;exact jz (mw,y5.1++[D]) h [1,0]
     .refine au ?_;exact jz (z6,y5.1) h [0,1]
   .refine ae (mq ?_);obtain⟨gw,F,h⟩:=aa h;refine jb (be rfl F) ?_;refine au ?_;exact jz (z8,(x7,gw)) h [0,1]
  .refine au ?_;exact jz (z6,y5.1) h [1]
 .
  refine sr (mq ?_);refine aq (nt (cC ?_));refine bf (fV [4,5,57] ⟨rfl,rfl,rfl,trivial⟩) ?_;cases h;exact ra
def eK(k:Nat)(a0:ab)(r9:(List (List Int))):Nat->Int->Option (Except ((List Int)×Int) Unit)
 |0,_=>none
 |n+1,c=>
  if c < (r9.length:Int) then((aK r9 c).bind λj=>
  (fP k a0 j).bind λl=>
  if 0 < (l.length:Int) then((aK r9 c).bind λh=>
  some (.error (h,0))) else((ck (c+1)).bind λe=>
  eK k a0 r9 n e)) else(some (.ok ()))
def eL(k:Nat)(a0:ab):Nat->Int->Option (Except ((List Int)×Int) Unit)
 |0,_=>none
 |n+1,y5=>
  if y5≤(a0.2.2.2.2.2.length:Int) then(bE (α:=Unit) ((kw k k 0 (a0.2.2.2.2.2.length:Int) y5).bind λr9=>
  eK k a0 r9 k 0) (λe=>some (.error e)) λ_=>
  (ck (y5+1)).bind λc=>
  eL k a0 n c) else(some (.ok ()))
def oq(k:Nat)(a0:ab):Option ((List Int)×Int):=
 (l8 k a0).bind λr2=>
 if¬(r2=0) then(some (([]:(List Int)),r2)) else(bE (α:=Unit) (eL k a0 k 0) (some) λ_=>
 some (([]:(List Int)),0))
theorem zI(k:Nat)(a0:ab)(r:(List Int)×Int)(h:oq k a0=some r):
 cT Tryz.prog 11 [.rep ah a0] [] (λ_:Unit=>(bn [.rep Tl r.1,I r.2],[])):=by
 unfold oq at h
 replace h:=aY h
 refine cT.of 43 Tryz.func11 rfl Tryz.ntmps11 rfl λS w0=>?_
 refine sr ?_
 refine bx λb1=>?_
 refine au ?_
 refine lo bB ?_
 obtain⟨r2,Q,h⟩:=aa h
 have U:=ta k a0 r2 Q
 refine ja (ax [.tmp 8] rfl rfl Vg rfl U) ?_
 refine au ?_
 refine jb (dG rfl) ?_
 refine nt ?_
 refine cn h (λh=>?_) (λh=>?_)
 .
  refine sr (mq ?_);refine cq ?_;refine aq (nt (rx ?_));refine bf (eN (t:=Tl) (x:=([]:(List Int))) 2 rfl .nil rfl rfl) ?_;cases h;exact rb
 .
  refine sk (cF (Z:=Unit) (α:=Unit) (λz4 x3=>[]) (λz4 x3=>[]) (λe=>e=r) h (λe h=>Option.some.inj h) (λK hR h=>?_) (λz4 x3 h=>?_))
  .refine au ?_;refine ai (aF (λz6 y5=>[(1,Pt b1),(5,I y5)]) (λz6 y5=>[.obj b1 25 (.rep ah a0)]) (eL k a0) k () 0 (λ_=>rfl) h (SE.fin [0] ⟨rfl,rfl,trivial⟩ rfl) (λn z6 y5 h=>?_));unfold eL at h;refine au ?_;refine fl dA ?_;refine lo jw ?_;refine ol vh ?_;refine jb (yJ rfl) ?_;refine nt (ci h (λh=>?_) (λh=>?_))
   .refine sk (cF (Z:=Unit) (α:=Unit) (λz8 x7=>[(1,Pt b1),(5,I y5)]) (λz8 x7=>[.obj b1 25 (.rep ah a0)]) (λe=>e=r) h (λe h=>hR e h) (λK hR h=>?_) (λz8 x7 h=>?_))
    .refine ai (sr (fl dA ?_));refine lo jw ?_;refine ol vh ?_;refine mq ?_;obtain⟨r9,O,h⟩:=aa h;refine jc (ax [.const (.int .i64 (0)),.tmp 22,.tmp 23] rfl rfl Vf rfl (zH k k 0 (a0.2.2.2.2.2.length:Int) y5 r9 O)) ?_;refine au ?_;refine ai (aF (λj c=>[(1,Pt b1),(5,I y5),(6,.rep (.slice Tl) r9),(7,I c)]) (λj c=>[.obj b1 25 (.rep ah a0)]) (eK k a0 r9) k () 0 (λ_=>rfl) h (SE.fin [0] ⟨rfl,rfl,rfl,rfl,trivial⟩ rfl) (λn j c h=>?_));unfold eK at h;refine au ?_;refine ol nR ?_;refine jb (bj rfl) ?_;refine nt (ci h (λh=>?_) (λh=>?_))
     .refine au ?_;refine ai (bC (bD ?_));refine ea 0 (ak rfl bB (kB) rfl) ?_;refine dm ?_;refine dm ?_;obtain⟨J,y,h⟩:=aa h;refine db (aG (t:=Tl) rfl nR eB y) ?_;refine da (ao (t:=Tl) rfl eB rfl) ?_;refine df cy ?_;obtain⟨M,D,h⟩:=aa h;refine jb (ax [.tmp 31,.tmp 35] rfl rfl R7 rfl (kx k a0 J M D)) ?_;refine ol nR ?_;refine jb (iq rfl) ?_;refine nt (ci h (λh=>?_) (λh=>?_))
      .refine au ?_;obtain⟨X,u,h⟩:=aa h;refine jb (aG (t:=Tl) rfl nR eB u) ?_;refine ja (ao (t:=Tl) rfl eB rfl) ?_;refine au ?_;obtain rfl:=hR _ h;exact rb
      .refine au ?_;refine ae (mq ?_);obtain⟨F,s,h⟩:=aa h;refine jb (be rfl s) ?_;refine au ?_;exact jz ((),F) h [0]
     .refine au ?_;exact jz ((),()) h [0]
    .refine ae (mq ?_);obtain⟨E,l,h⟩:=aa h;refine jb (be rfl l) ?_;refine au ?_;exact jz ((),E) h [0]
   .refine au ?_;exact jz ((),()) h []
  .refine sr (cq ?_);refine cq (nt (cC ?_));refine bf (eN (t:=Tl) (x:=([]:(List Int))) 2 rfl .nil rfl rfl) ?_;cases h;exact rb
def qe(k:Nat)(a0:ab)(a1:aC):Option ab:=
 (bO (aZ (length ([]:(List aC))+length a0.2.2.2.2.2))).bind λ_=>
 (bO (aZ (length (([]:(List aC))++a0.2.2.2.2.2)+length [a1]))).bind λ_=>
 some (a0.1,a0.2.1,a0.2.2.1,a0.2.2.2.1,a0.2.2.2.2.1,(([]:(List aC))++a0.2.2.2.2.2)++[a1])
theorem BD(k:Nat)(a0:ab)(a1:aC)(r:ab)(h:qe k a0 a1=some r):
 cT Tryz.prog 39 [.rep ah a0,.rep aA a1] [] (λ_:Unit=>(bn [.rep ah r],[])):=by
 unfold qe at h
 replace h:=aY h
 refine cT.of 14 Tryz.func39 rfl Tryz.ntmps39 rfl λS w0=>?_
 refine sr ?_
 refine bx λb1=>?_
 refine bx λb2=>?_
 refine aQ rfl rfl rfl (aV rfl km qH) trivial λb3=>?_
 refine au ?_
 refine rA [1,2,4,5,0,3,6,7,8] (by kernel_rfl) ?_
 refine aO rfl rfl rfl (av rfl dA) ⟨rfl,trivial⟩ ?_
 refine eZ 2 rfl rfl rfl rfl (ak rfl jw iV rfl) ⟨rfl,trivial⟩ ?_
 refine eZ 1 rfl rfl rfl rfl (ak rfl ix (kB) rfl) ⟨rfl,trivial⟩ ?_
 refine aO rfl rfl rfl (aX (t:=aA) [(.tmp 9,_)] [a1] rfl rfl rV (.cons rfl .rep .nil) rfl rfl) ⟨rfl,trivial⟩ ?_
 refine vX (λv=>[.sl v 27 aA ([]:(List aC))]) (λ_=>rfl) rfl rfl rfl (fQ (t:=aA) [] ([]:(List aC)) rfl rfl rV .nil rfl rfl) trivial ?_
 refine nj 5 [true,true,false,false,true] [8] [1] [.obj b2 27 (.rep aA a1)] rfl (by kernel_rfl) (by kernel_rfl) (by kernel_rfl) cy (λvs hv hB=>?_)
 obtain⟨w0,F,rfl,n⟩:=an hv
 obtain⟨w1,E,rfl,l⟩:=an n
 obtain⟨w2,D,rfl,j⟩:=an l
 obtain⟨w3,y,rfl,e⟩:=an j
 obtain⟨v4,x,rfl,c⟩:=an e
 obtain rfl:=jY c
 refine⟨[1,0,2,3],[.obj b3 25 (.agg (.pair (I 0) (.pair (I 0) (.pair (I 0) (.pair (I 0) (.pair (.eq (.slice none 0 0)) (.eq (.slice none 0 0)))))))),.obj b1 25 (.rep ah a0),.sl v4 27 aA ([]:(List aC))],by kernel_rfl,by decide,?_⟩
 obtain⟨u5,u,h⟩:=aa h
 refine lw 2 rfl ?_
 refine SZ rfl rfl rfl rfl (bg rfl rfl rV (ap u)) ⟨rfl,rfl,trivial⟩ (by kernel_rfl) λv6=>?_
 refine xu (by kernel_rfl) ?_
 obtain⟨u7,s,h⟩:=aa h
 refine fr 1 ?_
 refine cI rfl rfl rfl (bg rfl rfl rV (ap s)) ⟨rfl,rfl,trivial⟩ λv8=>?_
 refine fl dA ?_
 refine nf λo9=>?_
 refine fr 3 ?_
 refine aI rfl rfl (aD rfl jw o9 rfl rfl) ⟨rfl,rfl,trivial⟩ ?_
 refine nt ?_
 refine sr ?_
 refine fr 1 ?_
 refine dQ (gU (off:=5) [11] ⟨rfl,trivial⟩ rfl rfl) ?_
 refine lo bB ?_
 refine fr 2 ?_
 refine aI rfl rfl (aD rfl bB trivial rfl rfl) ⟨rfl,rfl,trivial⟩ ?_
 refine nt ?_
 refine cC ?_
 refine bf (c6 (a:=.agg (.pair (.rep Ti a0.1) (.pair (.rep Ti a0.2.1) (.pair (.rep Ti a0.2.2.1) (.pair (.rep Ti a0.2.2.2.1) (.pair (.rep (.slice (.slice Tl)) a0.2.2.2.2.1) (Rs aA ((([]:(List aC))++a0.2.2.2.2.2)++[a1])))))))) (a':=.rep ah (a0.1,a0.2.1,a0.2.2.1,a0.2.2.2.1,a0.2.2.2.2.1,(([]:(List aC))++a0.2.2.2.2.2)++[a1])) (dZ (.agg (.pair .rep (.pair .rep (.pair .rep (.pair .rep (.pair .rep .rep)))))))) ?_
 cases h
 exact aN () [.rep ah (a0.1,a0.2.1,a0.2.2.1,a0.2.2.2.1,a0.2.2.2.2.1,(([]:(List aC))++a0.2.2.2.2.2)++[a1])] 0 ⟨⟨_,_,_,_,_,rfl,(.head _),bB,(kB),rfl⟩,trivial⟩ rfl
def tc(k:Nat)(a0:ab)(a1:aC):Option (ab×Int):=
 (l8 k a0).bind λr4=>
 if¬(r4=0) then(some ((0,0,0,0,[],[]),r4)) else(if(a0.2.2.2.2.2.length:Int)=8 then(some ((0,0,0,0,[],[]),6)) else((fh k a0 a1).bind λr5=>
 if¬(r5=0) then(some ((0,0,0,0,[],[]),r5)) else((qe k a0 a1).bind λr6=>
 (((fP k a0 ([]:(List Int))).bind λe=>
 if 0 < (e.length:Int) then((fP k r6 ([]:(List Int))).bind λc=>
 some (decide ((c.length:Int)=0))) else(some false)):Option (Bool)).bind λx8=>
 if x8=true then(some ((0,0,0,0,[],[]),9)) else(some (r6,0)))))
theorem D8(k:Nat)(a0:ab)(a1:aC)(r:ab×Int)(h:tc k a0 a1=some r):
 cT Tryz.prog 13 [.rep ah a0,.rep aA a1] [] (λ_:Unit=>(bn [.rep ah r.1,I r.2],[])):=by
 unfold tc at h
 replace h:=aY h
 refine cT.of 42 Tryz.func13 rfl Tryz.ntmps13 rfl λS w0=>?_
 refine sr ?_
 refine bx λb1=>?_
 refine bx λb2=>?_
 refine aQ rfl rfl rfl (aV rfl km qH) trivial λb3=>?_
 refine cq ?_
 refine nt ?_
 refine bC ?_
 refine sr ?_
 refine fr 2 ?_
 refine lo bB ?_
 obtain⟨r4,y,h⟩:=aa h
 have D:=ta k a0 r4 y
 refine ja (ax [.tmp 9] rfl rfl Vg rfl D) ?_
 refine au ?_
 refine jb (dG rfl) ?_
 refine nt ?_
 refine cn h (λh=>?_) (λh=>?_)
 .
  refine sr (bU rfl (cN [] rfl wA km qG (fX trivial) rfl) trivial ?_);refine mq ?_;refine fr 1 ?_;refine aI rfl rfl (aD rfl bB trivial rfl rfl) ⟨rfl,rfl,trivial⟩ ?_;refine aq (nt (rx ?_));refine bf (c6 (a:=.agg (.pair (I 0) (.pair (I 0) (.pair (I 0) (.pair (I 0) (.pair (.eq (.slice none 0 0)) (.eq (.slice none 0 0)))))))) (a':=.rep ah (0,0,0,0,[],[])) (dZ (.agg (.pair .int (.pair .int (.pair .int (.pair .int (.pair .nil .nil)))))))) ?_;cases h;exact aN () [.rep ah (0,0,0,0,[],[]),_] 0 ⟨⟨_,_,_,_,_,rfl,(.head _),bB,(kB),rfl⟩,rfl,trivial⟩ rfl
 .
  refine au ?_;refine fl dA ?_;refine lo jw ?_;refine ol vh ?_;refine jb (iG rfl) ?_;refine nt (ci h (λh=>?_) (λh=>?_))
  .refine sr (bU rfl (cN [] rfl wA km qG (fX trivial) rfl) trivial ?_);refine fr 1 ?_;refine aI rfl rfl (aD rfl bB trivial rfl rfl) ⟨rfl,rfl,trivial⟩ ?_;refine cq (nt (rx ?_));refine bf (c6 (a:=.agg (.pair (I 0) (.pair (I 0) (.pair (I 0) (.pair (I 0) (.pair (.eq (.slice none 0 0)) (.eq (.slice none 0 0)))))))) (a':=.rep ah (0,0,0,0,[],[])) (dZ (.agg (.pair .int (.pair .int (.pair .int (.pair .int (.pair .nil .nil)))))))) ?_;cases h;exact aN () [.rep ah (0,0,0,0,[],[]),_] 0 ⟨⟨_,_,_,_,_,rfl,(.head _),bB,(kB),rfl⟩,rfl,trivial⟩ rfl
  .refine au ?_;refine lo bB ?_;refine fr 2 ?_;refine lo ix ?_;obtain⟨r5,u,h⟩:=aa h;refine jb (ax [.tmp 20,.tmp 21] rfl rfl Vb rfl (mI k a0 a1 r5 u)) ?_;refine au ?_;refine jb (dG rfl) ?_;refine nt (cn h (λh=>?_) (λh=>?_))
   .refine sr (bU rfl (cN [] rfl wA km qG (fX trivial) rfl) trivial ?_);refine mq ?_;refine fr 2 ?_;refine aI rfl rfl (aD rfl bB trivial rfl rfl) ⟨rfl,rfl,trivial⟩ ?_;refine aq (nt (rx ?_));refine bf (c6 (a:=.agg (.pair (I 0) (.pair (I 0) (.pair (I 0) (.pair (I 0) (.pair (.eq (.slice none 0 0)) (.eq (.slice none 0 0)))))))) (a':=.rep ah (0,0,0,0,[],[])) (dZ (.agg (.pair .int (.pair .int (.pair .int (.pair .int (.pair .nil .nil)))))))) ?_;cases h;exact aN () [.rep ah (0,0,0,0,[],[]),_] 0 ⟨⟨_,_,_,_,_,rfl,(.head _),bB,(kB),rfl⟩,rfl,trivial⟩ rfl
   .refine sk (sr (fr 1 ?_));refine lo bB ?_;refine fr 1 ?_;refine lo ix ?_;obtain⟨r6,n,h⟩:=aa h;refine jb (ax [.tmp 27,.tmp 28] rfl rfl Xf rfl (BD k a0 a1 r6 n)) ?_;refine aQ rfl rfl rfl (aV rfl km qH) trivial λb7=>?_;refine aI rfl rfl (aD rfl bB rfl rfl rfl) ⟨rfl,rfl,trivial⟩ ?_;refine nt (bC (aJ (Z:=Unit) (α:=Bool) (λz9 x8=>[(4,Pt b3),(8,Pt b7),(39,.eq (.bool x8))]) (λz9 x8=>[.obj b3 25 (.agg (.pair (I 0) (.pair (I 0) (.pair (I 0) (.pair (I 0) (.pair (.eq (.slice none 0 0)) (.eq (.slice none 0 0)))))))),.obj b7 25 (.rep ah r6)]) h (λK h=>?_) (λz9 x8 h=>?_)))
    .refine ae (fr 2 ?_);refine lo bB ?_;obtain⟨l,j,h⟩:=aa h;refine jb (bv (N:=[(.tmp 30,.rep ah a0),(.const (.slice none 0 0),.eq (.slice none 0 0))]) (ax [.tmp 30,.const (.slice none 0 0)] rfl rfl R7 rfl (kx k a0 ([]:(List Int)) l j)) λ_ _ _ hn=>⟨hn.1,(aE (t:=Tl) (x:=([]:(List Int))) .nil rfl rfl hn.2.1),trivial⟩) ?_;refine ol nR ?_;refine jb (iq rfl) ?_;refine mq ?_;refine bV (s:=34) rfl (λhb=>?_) (λhb=>?_)
     .replace h:=dY (vz hb) h;refine fr 1 ?_;refine eI rfl rfl rfl rfl rfl rfl (ak rfl bB (kB) rfl) ⟨rfl,trivial⟩ ?_;obtain⟨c,e,h⟩:=aa h;refine gb (bv (N:=[(.tmp 35,.rep ah r6),(.const (.slice none 0 0),.eq (.slice none 0 0))]) (ax [.tmp 35,.const (.slice none 0 0)] rfl rfl R7 rfl (kx k r6 ([]:(List Int)) c e)) λ_ _ _ hn=>⟨hn.1,(aE (t:=Tl) (x:=([]:(List Int))) .nil rfl rfl hn.2.1),trivial⟩) ?_;refine ga (lI rfl rfl nR) ?_;refine gb (iG rfl) ?_;refine au ?_;exact jz ((),decide ((c.length:Int)=0)) h [3,0]
     .replace h:=cz (vA hb) h;refine au ?_;exact jz ((),false) h [3,1]
    .refine cv h (λh=>?_) (λh=>?_)
     .refine sr (bU rfl (cN [] rfl wA km qG (fX trivial) rfl) trivial ?_);refine aI rfl rfl (aD rfl bB trivial rfl rfl) ⟨rfl,rfl,trivial⟩ ?_;refine cq (nt (rx ?_));refine bf (c6 (a:=.agg (.pair (I 0) (.pair (I 0) (.pair (I 0) (.pair (I 0) (.pair (.eq (.slice none 0 0)) (.eq (.slice none 0 0)))))))) (a':=.rep ah (0,0,0,0,[],[])) (dZ (.agg (.pair .int (.pair .int (.pair .int (.pair .int (.pair .nil .nil)))))))) ?_;cases h;exact aN () [.rep ah (0,0,0,0,[],[]),_] 0 ⟨⟨_,_,_,_,_,rfl,(.head _),bB,(kB),rfl⟩,rfl,trivial⟩ rfl
     .refine sk (sr (fr 1 ?_));refine lo bB ?_;refine fr 1 ?_;refine aI rfl rfl (aD rfl bB rfl rfl rfl) ⟨rfl,rfl,trivial⟩ ?_;refine au ?_;cases h;exact aN () [.rep ah r6,_] 0 ⟨⟨_,_,_,_,_,rfl,(.head _),bB,(kB),rfl⟩,rfl,trivial⟩ rfl
def dK(k:Nat)(a0:ab)(a1:ab):Nat->Int->Option (Except Bool Unit)
 |0,_=>none
 |n+1,y7=>
  if y7 < (a0.2.2.2.2.1.length:Int) then((aK a0.2.2.2.2.1 y7).bind λx9=>
  (aK a1.2.2.2.2.1 y7).bind λe=>
  (fR k x9 e).bind λh=>
  if¬(h=true) then(some (.error false)) else((ck (y7+1)).bind λc=>
  dK k a0 a1 n c)) else(some (.ok ()))
def dJ(k:Nat)(a0:ab)(a1:ab):Nat->Int->Option (Except Bool Unit)
 |0,_=>none
 |n+1,c=>
  if c < (a0.2.2.2.2.2.length:Int) then((aK a0.2.2.2.2.2 c).bind λj=>
  (aK a1.2.2.2.2.2 c).bind λh=>
  if¬(j=h) then(some (.error false)) else((ck (c+1)).bind λe=>
  dJ k a0 a1 n e)) else(some (.ok ()))
def ij(k:Nat)(a0:ab)(a1:ab):Option Bool:=
 ((if¬(a0.1=a1.1) then(some true) else(if¬(a0.2.1=a1.2.1) then(some true) else(if¬(a0.2.2.1=a1.2.2.1) then(some true) else(if¬(a0.2.2.2.1=a1.2.2.2.1) then(some true) else(if¬((a0.2.2.2.2.1.length:Int)=(a1.2.2.2.2.1.length:Int)) then(some true) else(some (!decide ((a0.2.2.2.2.2.length:Int)=(a1.2.2.2.2.2.length:Int))))))))):Option (Bool)).bind λx3=>
 if x3=true then(some false) else(bE (α:=Unit) (dK k a0 a1 k 0) (some) λ_=>
 bE (α:=Unit) (dJ k a0 a1 k 0) (some) λ_=>
 some true)
theorem oG(k:Nat)(a0:ab)(a1:ab)(r:Bool)(h:ij k a0 a1=some r):
 cT Tryz.prog 15 [.rep ah a0,.rep ah a1] [] (λ_:Unit=>(bn [.eq (.bool r)],[])):=by
 unfold ij at h
 replace h:=aY h
 refine cT.of 88 Tryz.func15 rfl Tryz.ntmps15 rfl λS w0=>?_
 refine sr ?_
 refine bx λb1=>?_
 refine bx λb2=>?_
 refine cq ?_
 refine nt ?_
 refine bC ?_
 refine aJ (Z:=Unit) (α:=Bool) (λz4 x3=>[(2,Pt b1),(3,Pt b2),(50,.eq (.bool x3))]) (λz4 x3=>[.obj b1 25 (.rep ah a0),.obj b2 25 (.rep ah a1)]) h (λK h=>?_) (λz4 x3 h=>?_)
 .
  refine ae (fl ff ?_);refine fr 1 ?_;refine lo bP ?_;refine fl ff ?_;refine fr 1 ?_;refine lo bP ?_;refine jb (dG rfl) ?_;refine mq ?_;refine bV (s:=12) rfl (λhb=>?_) (λhb=>?_)
  .replace h:=dY (Qf hb) h;refine au ?_;exact jz ((),true) h [1,0]
  .replace h:=cz (BY hb) h;refine ga (av rfl qD) ?_;refine fr 1 ?_;refine eI rfl rfl rfl rfl rfl rfl (ak rfl bP iV rfl) ⟨rfl,trivial⟩ ?_;refine ga (av rfl qD) ?_;refine fr 1 ?_;refine eI rfl rfl rfl rfl rfl rfl (ak rfl bP iV rfl) ⟨rfl,trivial⟩ ?_;refine gb (dG rfl) ?_;refine pf ?_;refine mq ?_;refine bV (s:=19) rfl (λhb=>?_) (λhb=>?_)
   .replace h:=dY (Qf hb) h;refine au ?_;exact jz ((),true) h [1,0]
   .replace h:=cz (BY hb) h;refine ga (av rfl sL) ?_;refine fr 1 ?_;refine eI rfl rfl rfl rfl rfl rfl (ak rfl bP iV rfl) ⟨rfl,trivial⟩ ?_;refine ga (av rfl sL) ?_;refine fr 1 ?_;refine eI rfl rfl rfl rfl rfl rfl (ak rfl bP iV rfl) ⟨rfl,trivial⟩ ?_;refine gb (dG rfl) ?_;refine pf ?_;refine mq ?_;refine bV (s:=26) rfl (λhb=>?_) (λhb=>?_)
    .replace h:=dY (Qf hb) h;refine au ?_;exact jz ((),true) h [1,0]
    .replace h:=cz (BY hb) h;refine ga (av rfl uF) ?_;refine fr 1 ?_;refine eI rfl rfl rfl rfl rfl rfl (ak rfl bP iV rfl) ⟨rfl,trivial⟩ ?_;refine ga (av rfl uF) ?_;refine fr 1 ?_;refine eI rfl rfl rfl rfl rfl rfl (ak rfl bP iV rfl) ⟨rfl,trivial⟩ ?_;refine gb (dG rfl) ?_;refine pf ?_;refine mq ?_;refine bV (s:=33) rfl (λhb=>?_) (λhb=>?_)
     .replace h:=dY (Qf hb) h;refine au ?_;exact jz ((),true) h [1,0]
     .replace h:=cz (BY hb) h;refine ga (av rfl co) ?_;refine fr 1 ?_;refine eI rfl rfl rfl rfl rfl rfl (ak rfl fp iV rfl) ⟨rfl,trivial⟩ ?_;refine ga (lI rfl rfl pJ) ?_;refine ga (av rfl co) ?_;refine fr 1 ?_;refine eI rfl rfl rfl rfl rfl rfl (ak rfl fp iV rfl) ⟨rfl,trivial⟩ ?_;refine ga (lI rfl rfl pJ) ?_;refine gb (dG rfl) ?_;refine pf ?_;refine mq ?_;refine bV (s:=42) rfl (λhb=>?_) (λhb=>?_)
      .replace h:=dY (Qf hb) h;refine au ?_;exact jz ((),true) h [1,0]
      .replace h:=cz (BY hb) h;refine ga (av rfl dA) ?_;refine fr 1 ?_;refine eI rfl rfl rfl rfl rfl rfl (ak rfl jw iV rfl) ⟨rfl,trivial⟩ ?_;refine ga (lI rfl rfl vh) ?_;refine ga (av rfl dA) ?_;refine fr 1 ?_;refine eI rfl rfl rfl rfl rfl rfl (ak rfl jw iV rfl) ⟨rfl,trivial⟩ ?_;refine ga (lI rfl rfl vh) ?_;refine gb (dG rfl) ?_;refine au ?_;exact jz ((), !decide ((a0.2.2.2.2.2.length:Int)=(a1.2.2.2.2.2.length:Int))) h [1,0]
 .
  refine cv h (λh=>?_) (λh=>?_)
  .refine au ?_;cases h;exact ra
  .refine sk (cF (Z:=Unit) (α:=Unit) (λz6 x5=>[(2,Pt b1),(3,Pt b2)]) (λz6 x5=>[.obj b1 25 (.rep ah a0),.obj b2 25 (.rep ah a1)]) (λe=>e=r) h (λe h=>Option.some.inj h) (λK hR h=>?_) (λz6 x5 h=>?_))
   .refine au ?_;refine ai (aF (λz8 y7=>[(2,Pt b1),(3,Pt b2),(5,I y7)]) (λz8 y7=>[.obj b1 25 (.rep ah a0),.obj b2 25 (.rep ah a1)]) (dK k a0 a1) k () 0 (λ_=>rfl) h (SE.fin [0,1] ⟨rfl,rfl,rfl,trivial⟩ rfl) (λn z8 y7 h=>?_));unfold dK at h;refine au ?_;refine fl co ?_;refine lo fp ?_;refine ol pJ ?_;refine jb (bj rfl) ?_;refine nt (ci h (λh=>?_) (λh=>?_))
    .refine au ?_;refine ai (bC (bD ?_));refine da (av rfl co) ?_;refine ea 0 (ak rfl fp iV rfl) ?_;refine dm ?_;obtain⟨x9,X,h⟩:=aa h;refine db (aG (t:=(.slice Tl)) rfl pJ kT X) ?_;refine da (ao (t:=(.slice Tl)) rfl kT rfl) ?_;refine da (av rfl co) ?_;refine ea 1 (ak rfl fp iV rfl) ?_;refine dm ?_;obtain⟨Q,F,h⟩:=aa h;refine db (aG (t:=(.slice Tl)) rfl pJ kT F) ?_;refine da (ao (t:=(.slice Tl)) rfl kT rfl) ?_;refine df cy ?_;obtain⟨U,J,h⟩:=aa h;refine jb (ax [.tmp 62,.tmp 67] rfl rfl R9 rfl (kF k x9 Q U J)) ?_;refine ja (eQ rfl) ?_;refine nt (cw h (λh=>?_) (λh=>?_))
     .refine au ?_;obtain rfl:=hR _ h;exact ra
     .refine au ?_;refine ae (mq ?_);obtain⟨O,E,h⟩:=aa h;refine jb (be rfl E) ?_;refine au ?_;exact jz ((),O) h [0,1]
    .refine au ?_;exact jz ((),()) h [0,1]
   .refine cF (Z:=Unit) (α:=Unit) (λl u=>[]) (λl u=>[]) (λe=>e=r) h (λe h=>Option.some.inj h) (λK hR h=>?_) (λl u h=>?_)
    .refine au ?_;refine ai (aF (λj c=>[(2,Pt b1),(3,Pt b2),(6,I c)]) (λj c=>[.obj b1 25 (.rep ah a0),.obj b2 25 (.rep ah a1)]) (dJ k a0 a1) k () 0 (λ_=>rfl) h (SE.fin [0,1] ⟨rfl,rfl,rfl,trivial⟩ rfl) (λn j c h=>?_));unfold dJ at h;refine au ?_;refine fl dA ?_;refine lo jw ?_;refine ol vh ?_;refine jb (bj rfl) ?_;refine nt (ci h (λh=>?_) (λh=>?_))
     .refine au ?_;refine ai (bC (bD ?_));refine da (av rfl dA) ?_;refine ea 0 (ak rfl jw iV rfl) ?_;refine dm ?_;obtain⟨gw,D,h⟩:=aa h;refine db (aG (t:=aA) rfl vh ix D) ?_;refine da (ao (t:=aA) rfl ix rfl) ?_;refine da (av rfl dA) ?_;refine ea 1 (ak rfl jw iV rfl) ?_;refine dm ?_;obtain⟨Y,y,h⟩:=aa h;refine db (aG (t:=aA) rfl vh ix y) ?_;refine da (ao (t:=aA) rfl ix rfl) ?_;refine df cy ?_;refine jb (Jv rfl WN rfl) ?_;refine nt (cn h (λh=>?_) (λh=>?_))
      .refine au ?_;obtain rfl:=hR _ h;exact ra
      .refine au ?_;refine ae (mq ?_);obtain⟨M,x,h⟩:=aa h;refine jb (be rfl x) ?_;refine au ?_;exact jz ((),M) h [0,1]
     .refine au ?_;exact jz ((),()) h []
    .refine au ?_;cases h;exact ra
