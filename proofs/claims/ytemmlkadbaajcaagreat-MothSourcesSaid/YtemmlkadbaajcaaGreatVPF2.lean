import Derived.Test.YtemmlkadbaajcaaGreatVPB10
open Nat
open List hiding mem_of_getElem?
open Array hiding mem_of_getElem? mk
set_option linter.unusedSimpArgs false
set_option linter.unusedVariables false
set_option maxRecDepth 4000
set_option maxHeartbeats 1000000
namespace Go.Proofs.YtemmlkadbaajcaaGreat
open K Go Go.Proofs
def eC(k:Nat)(a2:Int)(r1:(List (List Int)))(x5:Int):Nat->Int->Option (Except Int Unit)
 |0,_=>none
 |n+1,y6=>
  if y6 < x5 then((aH r1 y6).bind λx8=>
  (aH x8 a2).bind λx9=>
  if 0≤x9 then(some (.error y6)) else((ck (y6+1)).bind λc=>
  eC k a2 r1 x5 n c)) else(some (.ok ()))
def eU(k:Nat)(a0:ab)(a1:Int)(a2:Int):Option Int:=
 (mV k a0 a1).bind λr1=>
 bE (α:=Unit) ((ck ((a0.2.2.2.2.1.length:Int)+1)).bind λx5=>
 eC k a2 r1 x5 k 0) (some) λ_=>
 some (-1:Int)
theorem jK(k:Nat)(a0:ab)(c z_a0:Nat)(a1:Int)(a2:Int)(r:Int)(h:eU k a0 a1 a2=some r):
 cC (eP Tryz.prog) 33 [Pt c,.eq (.int .u8 a1),I a2] [.obj c 123 (be a0 z_a0),.inv z_a0 (cu k a0)] (λ_:Unit=>(bz [I r],[.obj c 123 (be a0 z_a0),.inv z_a0 (cu k a0)])):=by
 unfold eU at h
 replace h:=aW h
 refine cC.of 30 Tryz.func33 rfl Tryz.ntmps33 rfl λS w0=>?_
 refine sr ?_
 refine cq ?_
 refine nt ?_
 refine sr ?_
 iterate 2 refine mq ?_
 obtain⟨r1,D,h⟩:=aa h
 have E:=qQ k a0 c z_a0 a1 r1 D
 refine fr 1 ?_
 refine fr 1 ?_
 refine aU (Δ:=[_,_]) (F:=_) (λ_ _ _=>aj rfl _) rfl rfl (bp [.tmp 9,.tmp 10] rfl rfl HC rfl E) ⟨rfl,rfl,trivial⟩ λ_=>?_
 refine bf rfl rfl rfl (bA rfl AY Dc) trivial λb2=>?_
 refine aS rfl rfl (aN rfl Bl rfl rfl rfl) ⟨rfl,rfl,trivial⟩ ?_
 refine eQ (kN (t:=(.arr 7 Tr)) (x:=r1) [7] .rep ⟨rfl,trivial⟩) ?_
 refine nt ?_
 refine cO (Z:=Unit) (α:=Unit) (λz4 x3=>[]) (λz4 x3=>[.obj c 123 (be a0 z_a0),.inv z_a0 (cu k a0)]) (λe=>e=r) h (λe h=>Option.some.inj h) (λK hR h=>?_) (λz4 x3 h=>?_)
 .
  refine sr (mq ?_);refine ja (cZ rfl) ?_;refine fl i9 ?_;refine fl bW ?_;refine lo fq ?_;refine ol pq ?_;obtain⟨x5,y,h⟩:=aa h;refine jb (bh rfl y) ?_;refine fF rfl ?_;refine nt (ah (aE (λz7 y6=>[(2,I a2),(7,.at (.arr 7 Tr) r1),(18,I x5),(19,I y6)]) (λz7 y6=>[.obj c 123 (be a0 z_a0),.inv z_a0 (cu k a0)]) (eC k a2 r1 x5) k () 0 (λ_=>rfl) h (SE.fin [0,1] ⟨rfl,rfl,rfl,rfl,trivial⟩ rfl) (λn z7 y6 h=>?_)));unfold eC at h;refine sr (jb (bj rfl) ?_);refine nt (ai (ci h (λh=>?_) (λh=>?_)))
  .refine sk (ai (ah (sr (mq ?_))));refine aq (nt (sr ?_));iterate 2 refine mq ?_
   obtain⟨x8,u,h⟩:=aa h;refine jb (cM (t:=Tr) rfl yl gh u) ?_;obtain⟨x9,s,h⟩:=aa h;refine jb (cM (t:=Ti) rfl sG bJ s) ?_;refine ja (ak (t:=Ti) rfl bJ rfl) ?_;refine jb (gV rfl) ?_;refine nt (ci h (λh=>?_) (λh=>?_))
   .refine sr (mq ?_);refine aq (nt (aD (br (aX (bg ?_)))));obtain rfl:=hR _ h;exact aV () [_] 2 ⟨rfl,trivial⟩ rfl
   .refine ba (aI (tn (ae ?_)));obtain⟨l,j,h⟩:=aa h;refine jb (bh rfl j) ?_;refine mq (nl ?_);exact jz ((),l) h [0,1]
  .refine xa ?_;exact jz ((),()) h [0,1]
 .
  refine sr (cq (nt (aD ?_)));cases h;exact aV () [_] 2 ⟨rfl,trivial⟩ rfl
def fX(k:Nat)(a0:ab)(a1:(List Int)):Nat->(Int×Int)->Option (Except ((Option ab)×Int×Int) Int)
 |0,_=>none
 |n+1,y5=>
  if y5.2 < (a1.length:Int) then((aH a1 y5.2).bind λx7=>
  (ck (a0.1 - 1)).bind λx8=>
  (eB k x7 0 x8).bind λr9=>
  if¬(r9=true) then(some (.error (none,0,3))) else(((if 0 < y5.2 then((ck (y5.2 - 1)).bind λh=>
  (aH a1 h).bind λe=>
  some (decide (x7≤e))) else(some false)):Option (Bool)).bind λj=>
  if j=true then(some (.error (none,0,5))) else((fU k y5.1 x7).bind λl=>
  (ck (y5.2+1)).bind λc=>
  fX k a0 a1 n (l,c)))) else(some (.ok y5.1))
def ec(k:Nat)(a0:ab)(h:Int)(e:(List Int)):Nat->Int->Option (Except ((Option ab)×Int×Int) Unit)
 |0,_=>none
 |n+1,c=>
  if c < (e.length:Int) then((aH e c).bind λu=>
  (ck (a0.1 - 1)).bind λs=>
  (ck ((a0.2.2.2.2.1.length:Int) - 1)).bind λr=>
  (aH [s,r,(a0.2.2.2.2.1.length:Int)] h).bind λl=>
  (eB k u 0 l).bind λx=>
  if¬(x=true) then(some (.error (none,0,3))) else((ck (c+1)).bind λj=>
  ec k a0 h e n j)) else(some (.ok ()))
def c8(k:Nat)(a0:ab)(a2:(List Int))(a3:(List Int))(a4:(List Int)):Nat->Int->Option (Except ((Option ab)×Int×Int) Unit)
 |0,_=>none
 |n+1,c=>
  if c < ([a2,a3,a4].length:Int) then(bE (α:=Unit) ((aH [a2,a3,a4] c).bind λj=>
  ec k a0 c j k 0) (λe=>some (.error e)) λ_=>
  (ck (c+1)).bind λh=>
  c8 k a0 a2 a3 a4 n h) else(some (.ok ()))
def li(k:Nat)(a0:ab)(a1:(List Int))(a2:(List Int))(a3:(List Int))(a4:(List Int)):Option ((Option ab)×Int×Int):=
 (oq k a0).bind λr2=>
 if¬(r2=0) then(some (none,0,r2)) else(bE (α:=Int) (fX k a0 a1 k (0,0)) (some) λx3=>
 bE (α:=Unit) (c8 k a0 a2 a3 a4 k 0) (some) λ_=>
 (kj k a0).bind λe=>
 ib e (none) (λc=>(fu k c).bind λh=>
 some (some c,x3,0)))
theorem nB(k:Nat)(a0:ab)(a1:(List Int))(a2:(List Int))(a3:(List Int))(a4:(List Int))(r:(Option ab)×Int×Int)(h:li k a0 a1 a2 a3 a4=some r):
 cC (eP Tryz.prog) 40 [.rep am a0,.rep Tl a1,.rep Tl a2,.rep Tl a3,.rep Tl a4] [] (λz:Nat×Nat=>(bz [M7 r.1 z.1,.eq (.int .u8 r.2.1),I r.2.2],M6 r.1 λq=>sK q z.1 z.2 k)):=by
 unfold li at h
 replace h:=aW h
 refine cC.of 95 Tryz.func40 rfl Tryz.ntmps40 rfl λS w0=>?_
 refine sr ?_
 refine bx λb1=>?_
 refine cq ?_
 refine cq ?_
 refine cq ?_
 refine nt ?_
 refine ai ?_
 refine sr ?_
 refine lo cY ?_
 obtain⟨r2,XR,h⟩:=aa h
 have XS:=zY k a0 r2 XR
 refine ja (au [.tmp 22] rfl rfl Wg rfl XS) ?_
 refine aq ?_
 refine nt ?_
 refine sr ?_
 refine mq ?_
 refine jb (dZ rfl) ?_
 refine nt ?_
 refine cn h (λh=>?_) (λh=>?_)
 .
  refine sr (mq ?_);refine cq ?_;refine cq ?_;refine aq (nt (rx ?_));cases h;exact aV (0,0) [.eq (.pointer none),_,_] 0 ⟨rfl,rfl,rfl,trivial⟩ rfl
 .
  refine sk (sr (cq (nt ?_)));refine cO (Z:=Unit) (α:=Int) (λz4 x3=>[(2,.rep Tl a2),(3,.rep Tl a3),(4,.rep Tl a4),(5,Pt b1),(14,.eq (.int .u8 x3))]) (λz4 x3=>[.obj b1 25 (.rep am a0)]) (λe=>e=r) h (λe h=>Option.some.inj h) (λK hR h=>?_) (λz4 x3 h=>?_)
  .refine sr (mq ?_);refine ol fD ?_;refine fF rfl ?_;refine nt (ah (aE (λz6 y5=>[(1,.rep Tl a1),(2,.rep Tl a2),(3,.rep Tl a3),(4,.rep Tl a4),(5,Pt b1),(14,.eq (.int .u8 y5.1)),(27,.rep Tl a1),(28,I (a1.length:Int)),(29,I y5.2)]) (λz6 y5=>[.obj b1 25 (.rep am a0)]) (fX k a0 a1) k () (0,0) (λ_=>rfl) h (SE.fin [0] ⟨rfl,rfl,rfl,rfl,rfl,rfl,rfl,rfl,rfl,trivial⟩ rfl) (λn z6 y5 h=>?_)));unfold fX at h;refine sr (jb (bj rfl) ?_);refine nt (ai (ci h (λh=>?_) (λh=>?_)))
   .refine sk (ai (ah (sr (mq ?_))));obtain⟨x7,XP,h⟩:=aa h;refine jb (ay (t:=Ti) rfl fD bJ XP) ?_;refine ja (ak (t:=Ti) rfl bJ rfl) ?_;refine aq ?_;refine aq (nt (ai (sr ?_)));refine mq ?_;refine fl fx ?_;refine lo bJ ?_;obtain⟨x8,XO,h⟩:=aa h;refine jb (dR rfl XO) ?_;obtain⟨r9,XQ,h⟩:=aa h;refine jc (au [.tmp 34,.const (.int .i64 (0)),.tmp 37] rfl rfl Ap rfl (eI k x7 0 x8 r9 XQ)) ?_;refine ja (eS rfl) ?_;refine nt (cw h (λh=>?_) (λh=>?_))
    .refine sr (cq ?_);refine cq ?_;refine cq (nt (rx (br (aX (bg ?_)))));obtain rfl:=hR _ h;exact aV (0,0) [.eq (.pointer none),_,_] 0 ⟨rfl,rfl,rfl,trivial⟩ rfl
    .refine sk (ai (aC (Z:=Unit) (α:=Bool) (λO y=>[(1,.rep Tl a1),(2,.rep Tl a2),(3,.rep Tl a3),(4,.rep Tl a4),(5,Pt b1),(14,.eq (.int .u8 y5.1)),(16,I x7),(27,.rep Tl a1),(28,I (a1.length:Int)),(29,I y5.2),(50,.eq (.bool y))]) (λO y=>[.obj b1 25 (.rep am a0)]) h (λK h=>?_) (λO y h=>?_)))
     .refine ae (mq ?_);refine jb (iM rfl) ?_;refine mq ?_;refine bU (s:=42) rfl (λhb=>?_) (λhb=>?_)
      .replace h:=dO (uE hb) h;refine gm ?_;refine gm ?_;refine gm ?_;obtain⟨XV,XA,h⟩:=aa h;refine gb (dR rfl XA) ?_;obtain⟨XK,Xz,h⟩:=aa h;refine gb (ay (t:=Ti) rfl fD bJ Xz) ?_;refine ga (ak (t:=Ti) rfl bJ rfl) ?_;refine gb (yK rfl) ?_;refine pt (nl ?_);exact jz ((),decide (x7≤XK)) h [0]
      .replace h:=bZ (uF hb) h;iterate 7 refine gn ?_
       refine pf (nl ?_);exact jz ((),false) h [0]
     .refine cv h (λh=>?_) (λh=>?_)
      .refine sr (cq ?_);refine cq ?_;refine cq (nt (rx (br (aX (bg ?_)))));obtain rfl:=hR _ h;exact aV (0,0) [.eq (.pointer none),_,_] 0 ⟨rfl,rfl,rfl,trivial⟩ rfl
      .refine sk (ae ?_);iterate 2 refine mq ?_
       obtain⟨Y,XE,h⟩:=aa h;refine jb (au [.tmp 51,.tmp 52] rfl rfl Og rfl (jB k y5.1 x7 Y XE)) ?_;refine aq (aG (aI (tn (ae ?_))));obtain⟨XJ,Xy,h⟩:=aa h;refine jb (bh rfl Xy) ?_;refine mq (nl ?_);exact jz ((),(Y,XJ)) h [0]
   .refine xa ?_;exact jz ((),y5.1) h [0]
  .refine cO (Z:=Unit) (α:=Unit) (λM U=>[(5,Pt b1),(14,.eq (.int .u8 x3))]) (λM U=>[.obj b1 25 (.rep am a0)]) (λe=>e=r) h (λe h=>Option.some.inj h) (λK hR h=>?_) (λM U h=>?_)
   .refine sr ?_;iterate 3 refine mq ?_
    refine jc (aR (t:=Tl) [(.tmp 55,_),(.tmp 56,_),(.tmp 57,_)] [a2,a3,a4] rfl rfl lS (.cons rfl .rep (.cons rfl .rep (.cons rfl .rep .nil))) rfl rfl) ?_;refine ol nk ?_;refine fF rfl ?_;refine nt (ah (aE (λJ c=>[(5,Pt b1),(14,.eq (.int .u8 x3)),(58,.rep (.slice Tl) [a2,a3,a4]),(59,I ([a2,a3,a4].length:Int)),(60,I c)]) (λJ c=>[.obj b1 25 (.rep am a0)]) (c8 k a0 a2 a3 a4) k () 0 (λ_=>rfl) h (SE.fin [0] ⟨rfl,rfl,rfl,rfl,rfl,trivial⟩ rfl) (λn J c h=>?_)));unfold c8 at h;refine sr (jb (bj rfl) ?_);refine nt (ai (ci h (λh=>?_) (λh=>?_)))
    .refine sk (cO (Z:=Unit) (α:=Unit) (λE Q=>[(5,Pt b1),(14,.eq (.int .u8 x3)),(58,.rep (.slice Tl) [a2,a3,a4]),(59,I ([a2,a3,a4].length:Int)),(60,I c)]) (λE Q=>[.obj b1 25 (.rep am a0)]) (λe=>e=r) h (λe h=>hR e h) (λK hR h=>?_) (λE Q h=>?_))
     .refine ah (sr (mq ?_));obtain⟨x,Xx,h⟩:=aa h;refine jb (ay (t:=Tl) rfl nk ew Xx) ?_;refine ja (ak (t:=Tl) rfl ew rfl) ?_;refine aq ?_;refine aq (nt (sr ?_));refine mq ?_;refine ol fD ?_;refine fF rfl ?_;refine nt (ah (aE (λD u=>[(5,Pt b1),(14,.eq (.int .u8 x3)),(17,I c),(58,.rep (.slice Tl) [a2,a3,a4]),(59,I ([a2,a3,a4].length:Int)),(60,I c),(65,.rep Tl x),(66,I (x.length:Int)),(67,I u)]) (λD u=>[.obj b1 25 (.rep am a0)]) (ec k a0 c x) k () 0 (λ_=>rfl) h (SE.fin [0] ⟨rfl,rfl,rfl,rfl,rfl,rfl,rfl,rfl,rfl,trivial⟩ rfl) (λn D u h=>?_)));unfold ec at h;refine sr (jb (bj rfl) ?_);refine nt (ai (ci h (λh=>?_) (λh=>?_)))
      .refine sk (ai (ah (sr ?_)));obtain⟨XI,Xw,h⟩:=aa h;refine jb (ay (t:=Ti) rfl fD bJ Xw) ?_;refine ja (ak (t:=Ti) rfl bJ rfl) ?_;refine aq (nt (sr ?_));refine mq ?_;refine fl fx ?_;refine lo bJ ?_;obtain⟨XU,Xv,h⟩:=aa h;refine jb (dR rfl Xv) ?_;refine fl bW ?_;refine lo fq ?_;refine ol pq ?_;obtain⟨XT,zz,h⟩:=aa h;refine jb (dR rfl zz) ?_;refine fl bW ?_;refine lo fq ?_;refine ol pq ?_;refine jc (Hm rfl UQ bJ SQ) ?_;refine mq ?_;obtain⟨XH,qt,h⟩:=aa h;refine jb (pR (t:=Ti) rfl UQ bJ rfl rfl (λ_=>rfl) qt) ?_;obtain⟨XM,XD,h⟩:=aa h;refine jc (au [.tmp 71,.const (.int .i64 (0)),.tmp 84] rfl rfl Ap rfl (eI k XI 0 XH XM XD)) ?_;refine ja (eS rfl) ?_;refine nt (cw h (λh=>?_) (λh=>?_))
       .refine sr (cq ?_);refine cq ?_;refine cq (nt (aD (br (aX (br (aX (bg ?_)))))));obtain rfl:=hR _ h;exact aV (0,0) [.eq (.pointer none),_,_] 0 ⟨rfl,rfl,rfl,trivial⟩ rfl
       .refine ba (aI (tn (ae ?_)));obtain⟨XG,mw,h⟩:=aa h;refine jb (bh rfl mw) ?_;refine mq (nl ?_);exact jz ((),XG) h [0]
      .refine f9 (bO (bO (c9 (bn ?_))));exact jz ((),()) h [0]
     .refine ae ?_;obtain⟨XF,mc,h⟩:=aa h;refine jb (bh rfl mc) ?_;refine mq (nl ?_);exact jz ((),XF) h [0]
    .refine xa ?_;exact jz ((),()) h [0]
   .refine sr (lo cY ?_);obtain⟨X,XC,h⟩:=aa h;have j:=pe k a0 X XC;rcases hr:X with _ |XN
    .rw [hr] at h j;replace h:=xb h;refine aU (Δ:=[]) (F:=_) (λ_ _ _=>aj rfl _) rfl rfl (au [.tmp 89] rfl rfl Oe rfl j) ⟨rfl,trivial⟩ λ_=>?_;cases h
    .rw [hr] at h j;replace h:=wZ h;refine aU (Δ:=[]) (F:=_) (λ_ _ _=>aj rfl _) rfl rfl (au [.tmp 89] rfl rfl Oe rfl j) ⟨rfl,trivial⟩ λl=>?_;refine aq (nt (sr ?_));refine mq ?_;obtain⟨XL,XB,h⟩:=aa h;refine fr 1 ?_;refine fr 1 ?_;refine aU (Δ:=[_,_]) (F:=_) (λ_ _ _=>aj rfl _) rfl rfl (bp [.tmp 91] rfl rfl We rfl (rR k XN l.1 l.2 XL XB)) ⟨rfl,trivial⟩ λ_=>?_;refine nt (sr ?_);iterate 2 refine mq ?_
     refine aq ?_;refine aq ?_;refine cq (nt (aD ?_));cases h;exact aV (l.1,l.2) [.eq (.pointer (some ⟨l.1,0,none⟩)),_,_] 2 ⟨rfl,rfl,rfl,trivial⟩ rfl
def dw(k:Nat)(r2:(List (List Int)))(y6:Int×Int×(List (bC×bC))):Nat->Int->Option Int
 |0,_=>none
 |n+1,c=>
  ((if 0 < c then((ck (c - 1)).bind λl=>
  (aH r2 l).bind λj=>
  (aH j y6.1).bind λh=>
  some (decide (0≤h))) else(some false)):Option (Bool)).bind λr=>
  if r=true then((ck (c - 1)).bind λe=>
  dw k r2 y6 n e) else(some c)
def dy(k:Nat)(a0:ab)(r2:(List (List Int))):Nat->(Int×Int×(List (bC×bC)))->Option (List (gG×gG))
 |0,_=>none
 |n+1,y6=>
  bE (α:=Int×Int×(List (bC×bC))) (((dw k r2 y6 k y6.2.1):Option (Int)).bind λc=>
  if c=0 then((bV (zC (y6.1,y6.2.1))).bind λ_=>
  some (.error (pU y6.2.2 (y6.1,y6.2.1) ((-1:Int),0)))) else((ck (c - 1)).bind λr=>
  (aH r2 r).bind λl=>
  (ck (c - 1)).bind λj=>
  (dr k a0 l y6.1 j).bind λh=>
  (ck (c - 1)).bind λe=>
  (bV (zC (y6.1,y6.2.1))).bind λ_=>
  some (.ok (h,e,pU y6.2.2 (y6.1,y6.2.1) (h,e))))) (some) λx8=>
  dy k a0 r2 n (x8.1,x8.2.1,x8.2.2)
def km(k:Nat)(a0:ab)(a1:Int)(a2:gG):Option (List (gG×gG)):=
 (mV k a0 a1).bind λr2=>
 dy k a0 r2 k (a2.1,a2.2,([]:List (bC×bC)))
theorem tf(k:Nat)(a0:ab)(c z_a0:Nat)(a1:Int)(a2:gG)(r:(List (gG×gG)))(h:km k a0 a1 a2=some r):
 cC (eP Tryz.prog) 41 [Pt c,.eq (.int .u8 a1),.rep cj a2] [.obj c 123 (be a0 z_a0),.inv z_a0 (cu k a0)] (λz:Nat=>(bz [.eq (.map (some z))],[.inv z (va r),.obj c 123 (be a0 z_a0),.inv z_a0 (cu k a0)])):=by
 unfold km at h
 replace h:=aW h
 refine cC.of 56 Tryz.func41 rfl Tryz.ntmps41 rfl λS w0=>?_
 refine sr ?_
 refine bx λb1=>?_
 refine cq ?_
 refine nt ?_
 refine sr ?_
 iterate 2 refine mq ?_
 obtain⟨r2,XQ,h⟩:=aa h
 have XR:=qQ k a0 c z_a0 a1 r2 XQ
 refine fr 2 ?_
 refine fr 2 ?_
 refine aU (Δ:=[_,_]) (F:=_) (λ_ _ _=>aj rfl _) rfl rfl (bp [.tmp 12,.tmp 13] rfl rfl HC rfl XR) ⟨rfl,rfl,trivial⟩ λ_=>?_
 refine bf rfl rfl rfl (bA rfl AY Dc) trivial λb3=>?_
 refine aS rfl rfl (aN rfl Bl rfl rfl rfl) ⟨rfl,rfl,trivial⟩ ?_
 refine eQ (kN (t:=(.arr 7 Tr)) (x:=r2) [7] .rep ⟨rfl,trivial⟩) ?_
 refine nt ?_
 refine sr ?_
 refine bf rfl rfl rfl (yI rfl) trivial λz4=>?_
 refine eQ (uN (va []) MB) ?_
 refine aq ?_
 refine nt ?_
 refine sr ?_
 refine bf rfl rfl rfl (bA rfl AX K5) trivial λb5=>?_
 refine nt ?_
 refine sr ?_
 refine fl EM ?_
 refine aS rfl rfl (aN rfl bJ rfl rfl rfl) ⟨rfl,rfl,trivial⟩ ?_
 refine nt ?_
 refine ah ?_
 refine dU 4 rfl ?_
 refine gi (ie (a:=.rep cj a2) (a':=.agg (.pair (I a2.1) (I a2.2))) (AE.trans GW (AE.agg (AE.trans Dw (AE.pair AE.int AE.int))))) ?_
 refine aE (λz7 y6=>[(0,Pt c),(5,Pt b1),(7,.at (.arr 7 Tr) r2),(8,.eq (.map (some z4))),(9,Pt b5)]) (λz7 y6=>[.obj c 123 (be a0 z_a0),.obj b1 82 (.agg (.pair (I y6.1) (I y6.2.1))),.obj b5 82 (.agg (.pair (I (-1:Int)) (I 0))),.inv z_a0 (cu k a0),.inv z4 (va y6.2.2)]) (dy k a0 r2) k () (a2.1,a2.2,([]:List (bC×bC))) (λ_=>rfl) h (SE.fin [3,0,1,4,2] ⟨rfl,rfl,rfl,rfl,rfl,trivial⟩ rfl) (λn z7 y6 h=>?_)
 unfold dy at h
 refine Ds (Z:=Unit) (α:=Int×Int×(List (bC×bC))) (λz9 x8=>[(0,Pt c),(5,Pt b1),(7,.at (.arr 7 Tr) r2),(8,.eq (.map (some z4))),(9,Pt b5)]) (λz9 x8=>[.obj c 123 (be a0 z_a0),.obj b1 82 (.agg (.pair (I x8.1) (I x8.2.1))),.obj b5 82 (.agg (.pair (I (-1:Int)) (I 0))),.inv z_a0 (cu k a0),.inv z4 (va x8.2.2)]) (λe=>e=r) h (λe h=>Option.some.inj h) (λK hR h=>?_) (λz9 x8 h=>?_)
 .
  refine ah (sr (fl Rb ?_));refine fr 1 ?_;refine lo bJ ?_;refine aq (nt ?_);refine aC (Z:=Unit) (α:=Int) (λO D=>[(0,Pt c),(5,Pt b1),(7,.at (.arr 7 Tr) r2),(8,.eq (.map (some z4))),(9,Pt b5),(10,I D)]) (λO D=>[.obj c 123 (be a0 z_a0),.obj b1 82 (.agg (.pair (I y6.1) (I y6.2.1))),.obj b5 82 (.agg (.pair (I (-1:Int)) (I 0))),.inv z_a0 (cu k a0),.inv z4 (va y6.2.2)]) h (λK h=>?_) (λO D h=>?_)
  .refine ah (aE (λM s=>[(0,Pt c),(5,Pt b1),(7,.at (.arr 7 Tr) r2),(8,.eq (.map (some z4))),(9,Pt b5),(10,I s)]) (λM s=>[.obj c 123 (be a0 z_a0),.obj b1 82 (.agg (.pair (I y6.1) (I y6.2.1))),.obj b5 82 (.agg (.pair (I (-1:Int)) (I 0))),.inv z_a0 (cu k a0),.inv z4 (va y6.2.2)]) (dw k r2 y6) k () y6.2.1 (λ_=>rfl) h (SE.fin [1,0,2,3,4] ⟨rfl,rfl,rfl,rfl,rfl,rfl,trivial⟩ rfl) (λn M s h=>?_));unfold dw at h;refine ai (aC (Z:=Unit) (α:=Bool) (λJ y=>[(0,Pt c),(5,Pt b1),(7,.at (.arr 7 Tr) r2),(8,.eq (.map (some z4))),(9,Pt b5),(10,I s),(30,.eq (.bool y))]) (λJ y=>[.obj c 123 (be a0 z_a0),.obj b1 82 (.agg (.pair (I y6.1) (I y6.2.1))),.obj b5 82 (.agg (.pair (I (-1:Int)) (I 0))),.inv z_a0 (cu k a0),.inv z4 (va y6.2.2)]) h (λK h=>?_) (λJ y h=>?_))
   .refine bu ?_;refine dm ?_;refine db (iM rfl) ?_;refine jH rfl rfl rfl (aK rfl) ⟨rfl,trivial⟩ (λhb=>?_) (λhb=>?_)
    .replace h:=dO (uE hb) h;refine aJ rfl rfl rfl rfl rfl (aK rfl) ⟨rfl,rfl,trivial⟩ ?_;obtain⟨XZ,Xz,h⟩:=aa h;refine aJ rfl rfl rfl rfl rfl (dR rfl Xz) ⟨rfl,rfl,rfl,trivial⟩ ?_;refine aJ rfl rfl rfl rfl rfl (av rfl EM) ⟨rfl,rfl,trivial⟩ ?_;refine iD 1 rfl rfl rfl rfl rfl rfl (ao rfl bJ jQ rfl) ⟨rfl,rfl,trivial⟩ ?_;obtain⟨XY,Xy,h⟩:=aa h;refine aJ rfl rfl rfl rfl rfl (cM (t:=Tr) rfl yl gh Xy) ⟨rfl,rfl,rfl,trivial⟩ ?_;refine df bY ?_;obtain⟨XG,Xx,h⟩:=aa h;refine gb (cM (t:=Ti) rfl sG bJ Xx) ?_;refine ga (ak (t:=Ti) rfl bJ rfl) ?_;refine gb (gV rfl) ?_;refine pt (nl ?_);exact jz ((),decide (0≤XG)) h [0,1,2,3,4]
    .replace h:=bZ (uF hb) h;iterate 5 refine dg ?_
     refine df bY ?_;iterate 3 refine gn ?_
     refine pf (nl ?_);exact jz ((),false) h [0,1,2,3,4]
   .refine cv h (λh=>?_) (λh=>?_)
    .refine sk (ah (ae (mq ?_)));obtain⟨XF,Xw,h⟩:=aa h;refine jb (dR rfl Xw) ?_;refine aq (aG (bn ?_));exact jz ((),XF) h [0,1,2,3,4]
    .refine xa ?_;exact jz ((),s) h [0,1,2,3,4]
  .refine ai (sr (mq ?_));refine jb (jO rfl) ?_;refine nt (ci h (λh=>?_) (λh=>?_))
   .refine sr (mq ?_);refine fr 1 ?_;refine lo pz ?_;refine fr 2 ?_;refine lo pz ?_;refine eQ (dA (t:=cj) (x:=(y6.1,y6.2.1)) 36 rfl (.agg (.pair .int .int)) trivial rfl) ?_;obtain⟨Ye,XB,h⟩:=aa h;refine eQ (dA (t:=cj) (x:=((-1:Int),0)) 37 rfl (.agg (.pair .int .int)) trivial rfl) ?_;refine fr 4 ?_;refine aS rfl rfl (s7 (K:=mt) (V:=mt) (t:=(y6.1,y6.2.1)) (n:=((-1:Int),0)) (l:=y6.2.2) (λ_ _ _ h=>oH h) rfl SK nY (λ_ _ _ h=>oH h) (sP (ap XB)) (sO _) sQ) ⟨rfl,rfl,rfl,trivial⟩ ?_;refine nt (sr (mq ?_));refine aq (nt (rx (br (aX ?_))));refine bv (SE.fin (Γ':=[(6,_)]) [0,3,4,1,2] ⟨rfl,trivial⟩ rfl) ?_;obtain rfl:=hR _ h;exact aV z4 [.eq (.map (some z4))] 3 ⟨rfl,trivial⟩ rfl
   .refine sk (ai (qw ?_));refine bG rfl rfl rfl (aK rfl) ⟨rfl,trivial⟩ ?_;refine bG rfl rfl rfl (aK rfl) ⟨rfl,trivial⟩ ?_;obtain⟨XX,Xv,h⟩:=aa h;refine bG rfl rfl rfl (dR rfl Xv) ⟨rfl,rfl,trivial⟩ ?_;obtain⟨XE,zz,h⟩:=aa h;refine bG rfl rfl rfl (cM (t:=Tr) rfl yl gh zz) ⟨rfl,rfl,trivial⟩ ?_;refine bG rfl rfl rfl (ak (t:=Tr) rfl gh rfl) ⟨rfl,trivial⟩ ?_;refine bG rfl rfl rfl (av rfl EM) ⟨rfl,trivial⟩ ?_;refine ji 1 rfl rfl rfl rfl (ao rfl bJ jQ rfl) ⟨rfl,trivial⟩ ?_;refine bG rfl rfl rfl (aK rfl) ⟨rfl,trivial⟩ ?_;obtain⟨XD,qt,h⟩:=aa h;refine bG rfl rfl rfl (dR rfl qt) ⟨rfl,rfl,trivial⟩ ?_;obtain⟨j,XC,h⟩:=aa h;refine ji 0 rfl rfl rfl rfl (au [.tmp 39,.tmp 43,.tmp 45,.tmp 47] rfl rfl Un rfl (pn k a0 c z_a0 XE y6.1 XD j XC)) ⟨rfl,rfl,rfl,rfl,trivial⟩ ?_;refine bG rfl rfl rfl (aK rfl) ⟨rfl,trivial⟩ ?_;obtain⟨u,mw,h⟩:=aa h;refine bG rfl rfl rfl (dR rfl mw) ⟨rfl,rfl,trivial⟩ ?_;refine bG rfl rfl rfl (eX [(0,.tmp 48,_),(1,.tmp 50,_)] rfl QI AX K3 (kZ ⟨rfl,rfl,trivial⟩) rfl) ⟨rfl,rfl,trivial⟩ ?_;refine GN (MY 82 (.agg (.pair (I 0) (I 0)))) (λ_=>rfl) rfl rfl rfl (bA rfl AX K5) trivial ?_;refine uQ 14 [true,true,true,true,true,true,true,true,true,true,true,true,true,true] [] [] [] rfl (by kernel_rfl) (by kernel_rfl) (by kernel_rfl) bY (λvs hv hB=>?_);obtain⟨w0,Yc,rfl,XP⟩:=aF hv;obtain⟨w1,Yb,rfl,XO⟩:=aF XP;obtain⟨w2,Ya,rfl,XN⟩:=aF XO;obtain⟨w3,X9,rfl,XM⟩:=aF XN;obtain⟨w4,X8,rfl,XL⟩:=aF XM;obtain⟨w5,X7,rfl,XK⟩:=aF XL;obtain⟨w6,X6,rfl,XJ⟩:=aF XK;obtain⟨w7,X5,rfl,XI⟩:=aF XJ;obtain⟨w8,X4,rfl,XH⟩:=aF XI;obtain⟨w9,XW,rfl,mc⟩:=aF XH;obtain⟨X3,XV,rfl,Y⟩:=aF mc;obtain⟨X2,XU,rfl,X⟩:=aF Y;obtain⟨X1,XT,rfl,U⟩:=aF X;obtain⟨X0,XS,rfl,Q⟩:=aF U;obtain rfl:=qK Q;obtain⟨E,rfl⟩:=Jj hB.2.2.2.2.2.2.2.2.2.2.2.2.2.1;refine⟨[0,1,2,3,4,5],[.obj c 123 (be a0 z_a0),.obj b1 82 (.agg (.pair (I y6.1) (I y6.2.1))),.obj b5 82 (.agg (.pair (I (-1:Int)) (I 0))),.inv z_a0 (cu k a0),.inv z4 (va y6.2.2),.obj E 82 (.agg (.pair (I 0) (I 0)))],by kernel_rfl,by decide,?_⟩;refine tI 5 rfl ?_;refine sH rfl rfl (aN rfl pz trivial rfl rfl) ⟨rfl,rfl,trivial⟩ (by kernel_rfl) ?_;refine xu ?_;refine bv (SE.fin (Γ':=[(0,Pt c),(5,Pt b1),(7,.at (.arr 7 Tr) r2),(8,.eq (.map (some z4))),(9,Pt b5),(11,Pt E)]) (Δ':=[.obj E 82 (.agg (.pair (I j) (I u))),.obj c 123 (be a0 z_a0),.obj b1 82 (.agg (.pair (I y6.1) (I y6.2.1))),.obj b5 82 (.agg (.pair (I (-1:Int)) (I 0))),.inv z_a0 (cu k a0),.inv z4 (va y6.2.2)]) [0,1,2,3,4,5] ⟨rfl,rfl,rfl,rfl,rfl,rfl,trivial⟩ rfl) ?_;refine tn (sr (mq ?_));refine fr 2 ?_;refine lo pz ?_;refine fr 1 ?_;refine lo pz ?_;refine eQ (dA (t:=cj) (x:=(y6.1,y6.2.1)) 53 rfl (.agg (.pair .int .int)) trivial rfl) ?_;obtain⟨Yd,XA,h⟩:=aa h;refine eQ (dA (t:=cj) (x:=(j,u)) 54 rfl (.agg (.pair .int .int)) trivial rfl) ?_;refine fr 5 ?_;refine aS rfl rfl (s7 (K:=mt) (V:=mt) (t:=(y6.1,y6.2.1)) (n:=(j,u)) (l:=y6.2.2) (λ_ _ _ h=>oH h) rfl SK nY (λ_ _ _ h=>oH h) (sP (ap XA)) (sO _) sQ) ⟨rfl,rfl,rfl,trivial⟩ ?_
    refine nt (ae (fr 1 ?_));refine lo pz ?_;refine fr 2 ?_;refine aS rfl rfl (aN rfl pz trivial rfl rfl) ⟨rfl,rfl,trivial⟩ ?_;refine aG (bn ?_);exact jz ((),(j,u,pU y6.2.2 (y6.1,y6.2.1) (j,u))) h [3,0,4,5,2]
 .
  refine ax ?_;exact jz ((),(x8.1,x8.2.1,x8.2.2)) h [0,1,2,3,4]
def f7(k:Nat)(r7:(List (gG×gG))):Nat->(Int×Int×(List Int))->Option (List Int)
 |0,_=>none
 |n+1,c=>
  (bV (zC (c.1,c.2.1))).bind λ_=>
  if¬((jL r7 (c.1,c.2.1) (0,0))=((-1:Int),0)) then((bV (zC (c.1,c.2.1))).bind λ_=>
  (bV (bb (length c.2.2+length [(jL r7 (c.1,c.2.1) (0,0)).1]))).bind λ_=>
  (bV (zC (c.1,c.2.1))).bind λ_=>
  f7 k r7 n ((jL r7 (c.1,c.2.1) (0,0)).1,(jL r7 (c.1,c.2.1) (0,0)).2,c.2.2++[(jL r7 (c.1,c.2.1) (0,0)).1])) else(some c.2.2)
def mh(k:Nat)(a0:ab)(a1:(List Int))(a2:Int):Option ((List Int)×Int):=
 (li k a0 a1 [a2] ([]:(List Int)) ([]:(List Int))).bind λr2=>
 ib r2.1 (if¬(r2.2.2=0) then(some (([]:(List Int)),r2.2.2)) else(none)) (λq3=>if¬(r2.2.2=0) then(some (([]:(List Int)),r2.2.2)) else((eU k q3 r2.2.1 a2).bind λr5=>
 if r5 < 0 then(some (([]:(List Int)),11)) else((km k q3 r2.2.1 (a2,r5)).bind λr7=>
 ((f7 k r7 k (a2,r5,[a2])):Option ((List Int))).bind λc=>
 (ij k c).bind λe=>
 some (e,0))))
theorem ti(k:Nat)(a0:ab)(a1:(List Int))(a2:Int)(r:(List Int)×Int)(h:mh k a0 a1 a2=some r):
 cC (eP Tryz.prog) 15 [.rep am a0,.rep Tl a1,I a2] [] (λ_:Unit=>(bz [.rep Tl r.1,I r.2],[])):=by
 unfold mh at h
 replace h:=aW h
 refine cC.of 64 Tryz.func15 rfl Tryz.ntmps15 rfl λS w0=>?_
 refine sr ?_
 refine bx λb1=>?_
 refine cq ?_
 refine cq ?_
 refine nt ?_
 refine sr ?_
 refine lo cY ?_
 iterate 2 refine mq ?_
 refine ja (aR (t:=Ti) [(.tmp 19,_)] [a2] rfl rfl cH (.cons rfl .int .nil) rfl rfl) ?_
 obtain⟨r2,Y,h⟩:=aa h
 have u:=nB k a0 a1 [a2] ([]:(List Int)) ([]:(List Int)) r2 Y
 rcases hr:r2.1 with _ |q3
 .
  rw [hr] at h u;replace h:=xb h;refine aU (Δ:=[]) (F:=_) (λ_ _ _=>aj rfl _) rfl rfl (bX (N:=[(.tmp 17,.rep am a0),(.tmp 18,.rep Tl a1),(.tmp 20,.rep Tl [a2]),(.const (.slice none 0 0),.eq (.slice none 0 0)),(.const (.slice none 0 0),.eq (.slice none 0 0))]) (bp [.tmp 17,.tmp 18,.tmp 20,.const (.slice none 0 0),.const (.slice none 0 0)] rfl rfl CP rfl u) λ_ _ _ hn=>⟨hn.1,hn.2.1,hn.2.2.1,(aM (t:=Tl) (x:=([]:(List Int))) .nil rfl rfl hn.2.2.2.1),(aM (t:=Tl) (x:=([]:(List Int))) .nil rfl rfl hn.2.2.2.2.1),trivial⟩) ⟨rfl,rfl,rfl,rfl,rfl,trivial⟩ λ_=>?_;refine mq ?_;refine xr ?_;refine xr ?_;refine xr ?_;refine aq ?_;refine aq ?_;refine aq (nt (ai (sr ?_)));refine mq ?_;refine jb (dZ rfl) ?_;refine nt (cn h (λh=>?_) (λh=>?_))
  .refine sr (mq ?_);refine cq ?_;refine aq (nt (rx ?_));refine bv (dA (t:=Tl) (x:=([]:(List Int))) 6 rfl .nil rfl rfl) ?_;cases h;exact rb
  .cases h
 .
  rw [hr] at h u;replace h:=wZ h;refine aU (Δ:=[]) (F:=_) (λ_ _ _=>aj rfl _) rfl rfl (bX (N:=[(.tmp 17,.rep am a0),(.tmp 18,.rep Tl a1),(.tmp 20,.rep Tl [a2]),(.const (.slice none 0 0),.eq (.slice none 0 0)),(.const (.slice none 0 0),.eq (.slice none 0 0))]) (bp [.tmp 17,.tmp 18,.tmp 20,.const (.slice none 0 0),.const (.slice none 0 0)] rfl rfl CP rfl u) λ_ _ _ hn=>⟨hn.1,hn.2.1,hn.2.2.1,(aM (t:=Tl) (x:=([]:(List Int))) .nil rfl rfl hn.2.2.2.1),(aM (t:=Tl) (x:=([]:(List Int))) .nil rfl rfl hn.2.2.2.2.1),trivial⟩) ⟨rfl,rfl,rfl,rfl,rfl,trivial⟩ λz4=>?_;refine mq ?_;refine xr ?_;refine xr ?_;refine xr ?_;refine aq ?_;refine aq ?_;refine aq (nt (ai (sr ?_)));refine mq ?_;refine jb (dZ rfl) ?_;refine nt (cn h (λh=>?_) (λh=>?_))
  .refine sr (mq ?_);refine cq ?_;refine aq (nt (rx ?_));refine bv (dA (t:=Tl) (x:=([]:(List Int))) 6 rfl .nil rfl rfl) ?_;cases h;exact rb
  .refine sk (sr ?_);iterate 3 refine mq ?_
   obtain⟨r5,X,h⟩:=aa h;refine fr 1 ?_;refine fr 1 ?_;refine aU (Δ:=[_,_]) (F:=_) (λ_ _ _=>aj rfl _) rfl rfl (bp [.tmp 28,.tmp 29,.tmp 30] rfl rfl Rn rfl (jK k q3 z4.1 z4.2 r2.2.1 a2 r5 X)) ⟨rfl,rfl,rfl,trivial⟩ λ_=>?_;refine aq (nt (ai (sr ?_)));refine mq ?_;refine jb (bj rfl) ?_;refine nt (ci h (λh=>?_) (λh=>?_))
   .refine sr (cq ?_);refine cq (nt (rx ?_));refine bv (dA (t:=Tl) (x:=([]:(List Int))) 6 rfl .nil rfl rfl) ?_;cases h;exact rb
   .refine sk (sr ?_);iterate 2 refine mq ?_
    refine jb (eX [(0,.tmp 34,_),(1,.tmp 35,_)] rfl QI AX K3 (kZ ⟨rfl,rfl,trivial⟩) rfl) ?_;refine bf rfl rfl rfl (bA rfl AX K5) trivial λb6=>?_;refine aS rfl rfl (aN rfl pz trivial rfl rfl) ⟨rfl,rfl,trivial⟩ ?_;refine nt (sr ?_);iterate 2 refine mq ?_
    refine lo pz ?_;obtain⟨r7,U,h⟩:=aa h;refine fr 2 ?_;refine fr 2 ?_;refine aU (Δ:=[_,_]) (F:=_) (λ_ _ _=>aj rfl _) rfl rfl (bX (N:=[(.tmp 37,.eq (.pointer (some ⟨z4.1,0,none⟩))),(.tmp 38,.eq (.int .u8 r2.2.1)),(.tmp 39,.agg (.pair (I a2) (I r5)))]) (bp [.tmp 37,.tmp 38,.tmp 39] rfl rfl Wy rfl (tf k q3 z4.1 z4.2 r2.2.1 (a2,r5) r7 U)) λ_ _ _ hn=>⟨hn.1,hn.2.1,(aM (t:=cj) (x:=(a2,r5)) (.agg (.pair .int .int)) trivial rfl hn.2.2.1),trivial⟩) ⟨rfl,rfl,rfl,trivial⟩ λz8=>?_;refine aq (nt (sr ?_));refine mq ?_;refine bf rfl rfl rfl (ge (t:=Ti) [(.tmp 41,_)] [a2] rfl rfl cH (.cons rfl .int .nil) rfl rfl) ⟨rfl,trivial⟩ λv9=>?_;refine aq (nt ?_);refine aC (Z:=Value) (α:=(List Int)) (λj s=>[(13,.eq (.map (some z8))),(14,.eq j)]) (λj s=>[.sl j 3 Ti s,.inv z4.2 (cu k q3),.inv z8 (va r7)]) h (λK h=>?_) (λj s h=>?_)
    .refine sr (ja (eX [(0,.const (.int .i64 (-1)),_)] rfl QI AX K3 (kZ ⟨rfl,trivial⟩) rfl) ?_);refine bf rfl rfl rfl (bA rfl AX K5) trivial λmw=>?_;refine aS rfl rfl (aN rfl pz trivial rfl rfl) ⟨rfl,rfl,trivial⟩ ?_;refine nt (ah (aE (λe c=>[(12,Pt b6),(13,.eq (.map (some z8))),(14,.eq e.1),(15,.eq (.pointer (some ⟨e.2,0,none⟩)))]) (λe c=>[.obj b6 82 (.agg (.pair (I c.1) (I c.2.1))),.sl e.1 3 Ti c.2.2,.obj e.2 82 (.agg (.pair (I (-1:Int)) (I 0))),.inv z4.2 (cu k q3),.inv z8 (va r7)]) (f7 k r7) k (v9,mw) (a2,r5,[a2]) (λ_=>rfl) h (SE.fin [5,1,0,4,2] ⟨rfl,rfl,rfl,rfl,trivial⟩ rfl) (λn e c h=>?_)));unfold f7 at h;refine ai (ai (bu ?_));refine dm ?_;refine ea 0 (ao rfl pz (oM) rfl) ?_;obtain⟨Xv,J,h⟩:=aa h;refine eb 4 (bX (N:=[(.tmp 44,.eq (.map (some z8))),(.tmp 45,.agg (.pair (I c.1) (I c.2.1)))]) (t7 (K:=mt) (V:=mt) (t:=(c.1,c.2.1)) (l:=r7) (λn=>.rep cj n) vO rfl SK (0,0) vL nY (λ_ _ _ h=>oH h) (sP (ap J)) (sO _) sQ) λ_ _ _ hn=>⟨hn.1,(aM (t:=cj) (x:=(c.1,c.2.1)) (.agg (.pair .int .int)) trivial rfl hn.2.1),trivial⟩) ?_;refine ea 2 (ao rfl pz (oM) rfl) ?_;refine df bY ?_;refine eQ (dA (t:=cj) (x:=((-1:Int),0)) 47 rfl (.agg (.pair .int .int)) trivial rfl) ?_;refine jb (Jv rfl VX rfl) ?_;refine nt (cn h (λh=>?_) (λh=>?_))
     .refine sk (ai (ah (ae ?_)));iterate 2 refine mq ?_
      refine lo pz ?_;refine eQ (dA (t:=cj) (x:=(c.1,c.2.1)) 54 rfl (.agg (.pair .int .int)) trivial rfl) ?_;obtain⟨u16,E,h⟩:=aa h;refine fr 4 ?_;refine kb (bX (N:=[(.tmp 53,.eq (.map (some z8))),(.tmp 54,.rep cj (c.1,c.2.1))]) (t7 (K:=mt) (V:=mt) (t:=(c.1,c.2.1)) (l:=r7) (λn=>.rep cj n) vO rfl SK (0,0) vL nY (λ_ _ _ h=>oH h) (sP (ap E)) (sO _) sQ) λ_ _ _ hn=>⟨hn.1,hn.2.1,trivial⟩) ?_;refine ja (Ni rfl Xq rfl bJ (λ_=>rfl) rfl rfl rfl) ?_;refine ja (aR (t:=Ti) [(.tmp 56,_)] [(jL r7 (c.1,c.2.1) (0,0)).1] rfl rfl cH (.cons rfl .int .nil) rfl rfl) ?_;obtain⟨zz,D,h⟩:=aa h;refine fr 2 ?_;refine cz rfl rfl rfl (bi rfl rfl cH (ap D)) ⟨rfl,rfl,trivial⟩ λO=>?_;refine aq (aG (aI (tn (ai (sr ?_)))));refine fr 3 ?_;refine lo pz ?_;refine nt (ae (bf rfl rfl rfl (bA rfl AX K5) trivial λmc=>?_));refine aS rfl rfl (aN rfl pz trivial rfl rfl) ⟨rfl,rfl,trivial⟩ ?_;refine nt (ae (mq ?_));refine fr 4 ?_;refine lo pz ?_;refine eQ (dA (t:=cj) (x:=(c.1,c.2.1)) 50 rfl (.agg (.pair .int .int)) trivial rfl) ?_;obtain⟨qt,y,h⟩:=aa h;refine fr 4 ?_;refine kb (bX (N:=[(.tmp 49,.eq (.map (some z8))),(.tmp 50,.rep cj (c.1,c.2.1))]) (t7 (K:=mt) (V:=mt) (t:=(c.1,c.2.1)) (l:=r7) (λn=>.rep cj n) vO rfl SK (0,0) vL nY (λ_ _ _ h=>oH h) (sP (ap y)) (sO _) sQ) λ_ _ _ hn=>⟨hn.1,hn.2.1,trivial⟩) ?_;refine fr 1 ?_;refine aS rfl rfl (aN rfl pz rfl rfl rfl) ⟨rfl,rfl,trivial⟩ ?_;refine nl (bv (ie (a:=.rep cj (jL r7 (c.1,c.2.1) (0,0))) (a':=.agg (.pair (I ((jL r7 (c.1,c.2.1) (0,0)).1)) (I ((jL r7 (c.1,c.2.1) (0,0)).2)))) (AE.trans GW (AE.agg (AE.trans Dw (AE.pair AE.int AE.int))))) ?_);exact jz ((O,mc),((jL r7 (c.1,c.2.1) (0,0)).1,(jL r7 (c.1,c.2.1) (0,0)).2,c.2.2++[(jL r7 (c.1,c.2.1) (0,0)).1])) h [0,4,2,5,1]
     .refine xa ?_;exact jz (e.1,c.2.2) h [1,3,4]
    .refine sr (mq ?_);refine fr 2 ?_;refine aS rfl rfl (Jz rfl rfl SK) ⟨rfl,trivial⟩ ?_;refine nt (sr (mq ?_));obtain⟨Q,M,h⟩:=aa h;refine fr 1 ?_;refine ka (au [.tmp 61] rfl rfl Wx rfl (rH k s j Q M)) ?_;refine nt (sr (mq ?_));refine aq ?_;refine cq (nt (aD ?_));refine bv (fy [6,14,61,63] ⟨rfl,rfl,rfl,rfl,trivial⟩) ?_;cases h;exact rb
def cQ(k:Nat)(a0:ab)(a2:Int)(r1:(List (List Int))):Nat->Int->Option Bool
 |0,_=>none
 |n+1,y3=>
  if y3 < (a0.2.2.2.2.2.length:Int) then((aH a0.2.2.2.2.2 y3).bind λx5=>
  (((fW k a2 y3).bind λr9=>
  if¬(r9=true) then((aH r1 x5.2.1).bind λh=>
  (aH h x5.1).bind λe=>
  some (!decide ((decide (a0.2.2.1≤e))=x5.2.2))) else(some false)):Option (Bool)).bind λx7=>
  if x7=true then(some false) else((ck (y3+1)).bind λc=>
  cQ k a0 a2 r1 n c)) else(some true)
def iz(k:Nat)(a0:ab)(a1:Int)(a2:Int):Option Bool:=
 (mV k a0 a1).bind λr1=>
 cQ k a0 a2 r1 k 0
theorem pX(k:Nat)(a0:ab)(c z_a0:Nat)(a1:Int)(a2:Int)(r:Bool)(h:iz k a0 a1 a2=some r):
 E7 (eP Tryz.prog) 103 [Pt c,.eq (.int .u8 a1),.eq (.int .u8 a2)] [.obj c 123 (be a0 z_a0),.inv z_a0 (cu k a0)] (.iface 160 (.agg #[])) r:=by
 unfold iz at h
 replace h:=aW h
 refine E7.of 48 Tryz.func103 rfl Tryz.ntmps103 rfl λS w0=>?_
 refine sr ?_
 iterate 2 refine mq ?_
 obtain⟨r1,E,h⟩:=aa h
 have J:=qQ k a0 c z_a0 a1 r1 E
 refine fr 1 ?_
 refine fr 1 ?_
 refine aU (Δ:=[_,_]) (F:=_) (λ_ _ _=>aj rfl _) rfl rfl (bp [.tmp 9,.tmp 10] rfl rfl HC rfl J) ⟨rfl,rfl,trivial⟩ λ_=>?_
 refine bf rfl rfl rfl (bA rfl AY Dc) trivial λb2=>?_
 refine aS rfl rfl (aN rfl Bl rfl rfl rfl) ⟨rfl,rfl,trivial⟩ ?_
 refine eQ (kN (t:=(.arr 7 Tr)) (x:=r1) [6] .rep ⟨rfl,trivial⟩) ?_
 refine nt ?_
 refine sr ?_
 refine mq ?_
 refine ja (cZ rfl) ?_
 refine fl i9 ?_
 refine fl fH ?_
 refine lo nh ?_
 refine ol DI ?_
 refine fF rfl ?_
 refine nt ?_
 refine ah ?_
 refine aE (λz4 y3=>[(0,Pt c),(2,.eq (.int .u8 a2)),(6,.at (.arr 7 Tr) r1),(16,Rs aL a0.2.2.2.2.2),(17,I (a0.2.2.2.2.2.length:Int)),(18,I y3)]) (λz4 y3=>[.obj c 123 (be a0 z_a0),.inv z_a0 (cu k a0)]) (cQ k a0 a2 r1) k () 0 (λ_=>rfl) h (SE.fin [0,1] ⟨rfl,rfl,rfl,rfl,rfl,rfl,trivial⟩ rfl) (λn z4 y3 h=>?_)
 unfold cQ at h
 refine sr ?_
 refine jb (bj rfl) ?_
 refine nt ?_
 refine ai ?_
 refine ci h (λh=>?_) (λh=>?_)
 .
  refine sk (ai (ah (sr (mq ?_))));obtain⟨x5,y,h⟩:=aa h;refine jb (ay (t:=aL) rfl DI nN y) ?_;refine ja (ak (t:=aL) rfl nN rfl) ?_;refine bf rfl rfl rfl (bA rfl GX OM) trivial λb6=>?_;refine aq ?_;refine aS rfl rfl (aN rfl nN rfl rfl rfl) ⟨rfl,rfl,trivial⟩ ?_;refine nt (aC (Z:=Unit) (α:=Bool) (λz8 x7=>[(0,Pt c),(2,.eq (.int .u8 a2)),(6,.at (.arr 7 Tr) r1),(16,Rs aL a0.2.2.2.2.2),(17,I (a0.2.2.2.2.2.length:Int)),(18,I y3),(44,.eq (.bool x7))]) (λz8 x7=>[.obj c 123 (be a0 z_a0),.inv z_a0 (cu k a0)]) h (λK h=>?_) (λz8 x7 h=>?_))
  .refine bu ?_;refine dm ?_;refine dm ?_;obtain⟨r9,D,h⟩:=aa h;refine db (au [.tmp 23,.tmp 24] rfl rfl KN rfl (iO k a2 y3 r9 D)) ?_;refine da (eS rfl) ?_;refine jH rfl rfl rfl (aK rfl) ⟨rfl,trivial⟩ (λhb=>?_) (λhb=>?_)
   .replace h:=dO (rL hb) h;refine aJ rfl rfl rfl rfl rfl (av rfl Ak) ⟨rfl,rfl,trivial⟩ ?_;refine iD 0 rfl rfl rfl rfl rfl rfl (ao rfl bJ jQ rfl) ⟨rfl,rfl,trivial⟩ ?_;refine aJ rfl rfl rfl rfl rfl (av rfl Am) ⟨rfl,rfl,trivial⟩ ?_;refine iD 0 rfl rfl rfl rfl rfl rfl (ao rfl bJ jQ rfl) ⟨rfl,rfl,trivial⟩ ?_;obtain⟨M,l,h⟩:=aa h;refine aJ rfl rfl rfl rfl rfl (cM (t:=Tr) rfl yl gh l) ⟨rfl,rfl,rfl,trivial⟩ ?_;obtain⟨u,j,h⟩:=aa h;refine aJ rfl rfl rfl rfl rfl (cM (t:=Ti) rfl sG bJ j) ⟨rfl,rfl,rfl,trivial⟩ ?_;refine aJ rfl rfl rfl rfl rfl (ak (t:=Ti) rfl bJ rfl) ⟨rfl,rfl,trivial⟩ ?_;refine aJ rfl rfl rfl rfl rfl (aK rfl) ⟨rfl,rfl,trivial⟩ ?_;refine aJ rfl rfl rfl rfl rfl (cZ rfl) ⟨rfl,rfl,trivial⟩ ?_;refine aJ rfl rfl rfl rfl rfl (av rfl i9) ⟨rfl,rfl,trivial⟩ ?_;refine aJ rfl rfl rfl rfl rfl (av rfl so) ⟨rfl,rfl,trivial⟩ ?_;refine iD 1 rfl rfl rfl rfl rfl rfl (ao rfl bJ jQ rfl) ⟨rfl,rfl,trivial⟩ ?_;refine aJ rfl rfl rfl rfl rfl (gV rfl) ⟨rfl,rfl,rfl,trivial⟩ ?_;refine aJ rfl rfl rfl rfl rfl (av rfl KH) ⟨rfl,rfl,trivial⟩ ?_;refine iD 0 rfl rfl rfl rfl rfl rfl (ao rfl W3 jQ rfl) ⟨rfl,rfl,trivial⟩ ?_;refine df bY ?_;refine gb (QN rfl U4) ?_;refine pt (nl ?_);exact jz ((), !decide ((decide (a0.2.2.1≤u))=x5.2.2)) h [1,2]
   .replace h:=bZ (mM hb) h;iterate 15 refine dg ?_
    refine df bY ?_;refine gn ?_;refine pf (nl ?_);exact jz ((),false) h [1,2]
  .refine cv h (λh=>?_) (λh=>?_)
   .refine ae (cF rfl (JA rfl RO SO) trivial ?_);refine ja (Jx rfl RO) ?_;refine H9 rfl rfl rfl rfl ?_;refine Dp ?_;refine uO ?_;refine uO ?_;refine Dp ?_;refine bv (SE.fin (Γ':=[]) [0,1] trivial rfl) ?_;cases h;exact O5
   .refine ba (aI (tn (ae ?_)));obtain⟨s,e,h⟩:=aa h;refine jb (bh rfl e) ?_;refine mq (nl ?_);exact jz ((),s) h [0,1]
 .
  refine f9 (bO (bO (c9 (lF ?_))));refine bv (SE.fin (Γ':=[]) [0,1] trivial rfl) ?_;cases h;exact aV () [] 2 trivial rfl
def dD(k:Nat)(a0:ab)(a1:Int)(a2:Int):Option Bool:=iz k a0 a1 a2
theorem PD:RP Tryz.prog 160 (.agg #[]):=⟨⟨_,RO⟩,λw=>by kernel_rfl⟩
theorem KP:∀(S:FS) (w:World),(A.rep (.arr 0 Ti) []).holds S w (.agg #[]):=λ_ _=>⟨[],⟨rfl,rfl⟩,rfl⟩
theorem Pl:∀w,(zeroValue 160).run Tryz.prog w= .ok (.agg #[]) w:=λw=>by kernel_rfl
theorem P0:∀S w,(A.cells S w (.rep (.arr 0 Ti) []) (Value.cells (.agg #[])).toList):=λ_ _=>⟨rfl,rfl⟩
theorem PE:eZ Tryz.prog 160 0 true:=⟨λw=>by kernel_rfl,λw=>by kernel_rfl⟩
theorem UI:ag Tryz.prog 102:=ag.of Tryz.func102 (by kernel_rfl) (by kernel_rfl)
theorem PS:ag Tryz.prog 103:=ag.of Tryz.func103 (by kernel_rfl) (by kernel_rfl)
theorem MD:eZ Tryz.prog 4 1 false:=⟨λw=>by kernel_rfl,λw=>by kernel_rfl⟩
theorem Vq:∀w,(zeroValue 4).run Tryz.prog w= .ok (.bool false) w:=λw=>by kernel_rfl
theorem WR:∀S w,(A.cells S w (.eq (.bool false)) (Value.cells (.bool false)).toList):=λ_ _=>⟨rfl,rfl⟩
theorem C3:AP Tryz.prog 102 (.iface 160 (.agg #[])) 4 (.bool false):=by
 refine⟨UI,λM e0=>?_,λM e0=>?_⟩
 .refine nf.of (M:=M) (m:=.returning) (m1:=.returning) (val:=.nilIface) Tryz.func102 rfl rfl (by decide) rfl rfl (by decide) (λρ=>rfl) (λfr b cs hb hm=>Jc hb hm rfl) (.inl rfl) λb S w0=>?_;refine ja (Na KP rfl PD) ?_;refine mq ?_;refine xr ?_;refine xr ?_;refine bf rfl rfl rfl (bA rfl Pl P0) trivial λb1=>?_;refine aS rfl rfl (aN rfl PE rfl rfl rfl) ⟨rfl,rfl,trivial⟩ ?_;refine aq (nt (sr ?_));refine mq (nt ?_);refine kz rfl (λhb=>by cases hb) (λhb=>?_);refine ba (lF ?_);refine bv (SE.fin (Γ':=[]) [1] trivial rfl) ?_;exact aV () [] 1 trivial rfl
 .refine nf.of (M:=M) (m:=.panicking (jh (.iface 160 (.agg #[])) false)) (m1:=.panicking (jh (.iface 160 (.agg #[])) true)) (val:=.iface 160 (.agg #[])) Tryz.func102 rfl rfl (by decide) rfl rfl (by decide) (λρ=>rfl) (λfr b cs hb hm=>Jb hb hm) (.inr ⟨_,rfl⟩) λb S w0=>?_;refine ja (M9 KP rfl PD) ?_;refine mq ?_;refine xr ?_;refine xr ?_;refine bf rfl rfl rfl (bA rfl Pl P0) trivial λb1=>?_;refine aS rfl rfl (aN rfl PE rfl rfl rfl) ⟨rfl,rfl,trivial⟩ ?_;refine aq (nt (sr ?_));refine mq (nt ?_);refine kz rfl (λhb=>?_) (λhb=>by cases hb);refine ae (fr 1 ?_);refine aS rfl rfl (aN rfl MD rfl rfl rfl) ⟨rfl,rfl,trivial⟩ ?_;refine aG (lF ?_);refine bv (SE.fin (Γ':=[]) [0] trivial rfl) ?_;exact aV () [] 1 trivial rfl
theorem po(k:Nat)(a0:ab)(c z_a0:Nat)(a1:Int)(a2:Int)(r:Bool)(h:dD k a0 a1 a2=some r):
 cC (eP Tryz.prog) 85 [Pt c,.eq (.int .u8 a1),.eq (.int .u8 a2)] (sK a0 c z_a0 k) (λ_:Unit=>(bz [.eq (.bool r)],sK a0 c z_a0 k)):=by
 have cr:=pX k a0 c z_a0 a1 a2 r h
 refine Dv 12 Tryz.func85 rfl Tryz.ntmps85 rfl λS w0=>?_
 refine sr ?_
 refine bf rfl rfl rfl (bA rfl Vq WR) trivial λb6=>?_
 refine nt ?_
 refine sr ?_
 refine ja (t6 [] [.tmp 6] [] [(Pv b6)] rfl rfl rfl) ?_
 refine Lx rfl rfl rfl rfl rfl ?_
 refine nt ?_
 refine sr ?_
 iterate 3 refine mq ?_
 refine fr 2 ?_
 refine fr 2 ?_
 cases r with
 |false=>
  refine Ly (Ss:=[Pt c,.eq (.int .u8 a1),.eq (.int .u8 a2)]) (Δ:=sK a0 c z_a0 k) (F:=[.obj b6 4 (.eq (.bool false))]) [.tmp 8,.tmp 9,.tmp 10] rfl rfl rfl rfl PS ⟨rfl,rfl,rfl,trivial⟩ cr ?_;refine uO ?_;refine bv (SE.fin (Γ':=[(6,_)]) [2,0,1] ⟨rfl,trivial⟩ rfl) ?_;refine Ia C3 ?_;refine bv (SE.fin (Γ':=[(6,_)]) [1,2,0] ⟨rfl,trivial⟩ rfl) ?_;exact aV () [.eq (.bool false)] 2 ⟨⟨_,_,_,_,_,rfl,(.tail _ (.tail _ (.head _))),MD,(λ_=>rfl),rfl⟩,trivial⟩ rfl
 |true=>
  refine aU (Δ:=sK a0 c z_a0 k) (F:=[.obj b6 4 (.eq (.bool false))]) (λ_ _ _=>aj rfl _) rfl rfl (bp [.tmp 8,.tmp 9,.tmp 10] rfl rfl PS rfl cr.ok) ⟨rfl,rfl,rfl,trivial⟩ λ_=>?_;refine nt (sr (fr 2 ?_));refine aS rfl rfl (aN rfl MD rfl rfl rfl) ⟨rfl,rfl,trivial⟩ ?_;refine nt (aD (O4 C3 ?_));refine bv (SE.fin (Γ':=[(6,_)]) [1,2,0] ⟨rfl,trivial⟩ rfl) ?_;exact aV () [.eq (.bool true)] 2 ⟨⟨_,_,_,_,_,rfl,(.tail _ (.tail _ (.head _))),MD,(λ_=>rfl),rfl⟩,trivial⟩ rfl
def fo(k:Nat)(a0:ab)(a1:Int):Option (List Int):=
 (ll k (sR (λ(y5:(List Int)) (p7:Int)=>
  (dD k a0 p7 a1).bind λr9=>
  if r9=true then((bV (bb (length y5+length [p7]))).bind λ_=>
  some (y5++[p7],true)) else(some (y5,true)))) a0.1 (([]:(List Int)),false)).bind λr8=>
 if r8.2=true then(none) else(some r8.1)
theorem lP(k:Nat)(a0:ab)(c z_a0:Nat)(a1:Int)(r:(List Int))(h:fo k a0 a1=some r):
 cC (eP Tryz.prog) 60 [Pt c,.eq (.int .u8 a1)] [.obj c 123 (be a0 z_a0),.inv z_a0 (cu k a0)] (λ_:Unit=>(bz [.rep (.slice (.int .u8)) r],[.obj c 123 (be a0 z_a0),.inv z_a0 (cu k a0)])):=by
 unfold fo at h
 replace h:=aW h
 refine xA 23 Tryz.func60 rfl Tryz.ntmps60 rfl λS w0=>?_
 refine sr ?_
 refine bx λb1=>?_
 refine bx λb2=>?_
 refine cq ?_
 refine nt ?_
 refine sr ?_
 refine bf rfl rfl rfl (bA rfl LU OL) trivial λb3=>?_
 refine nt ?_
 refine ai ?_
 refine sr ?_
 refine fr 2 ?_
 refine lo MC ?_
 refine ja (cZ rfl) ?_
 refine fl i9 ?_
 refine fl fx ?_
 refine fr 3 ?_
 refine lo bJ ?_
 refine bf rfl rfl rfl (au [.tmp 11] rfl rfl Uu rfl (tg a0.1)) ⟨rfl,trivial⟩ λb4=>?_
 refine nt ?_
 refine ah ?_
 refine gi (SE.nil 70 (.int .u8)) ?_
 refine dU 6 rfl ?_
 refine dU 6 rfl ?_
 refine dU 2 rfl ?_
 refine dU 6 rfl ?_
 refine dU 6 rfl ?_
 refine dU 6 rfl ?_
 refine dU 6 rfl ?_
 obtain⟨r8,s,h⟩:=aa h
 refine tJ (Δ:=[.obj b4 3 (I a0.1),.obj c 123 (be a0 z_a0),.obj b1 66 (Pt c),.obj b3 67 (.eq (.slice none 0 0)),.sl (.slice none 0 0) 70 (.int .u8) ([]:(List Int)),.obj b2 70 (.eq (.int .u8 a1)),.inv z_a0 (cu k a0)]) (F:=[]) (X:=Value) (J:=λ_=>SH r8.2) (E:=λz6=>[.obj b4 3 (I a0.1),.obj c 123 (be a0 z_a0),.obj b1 66 (Pt c),.obj b3 67 (.eq z6),.sl z6 70 (.int .u8) r8.1,.obj b2 70 (.eq (.int .u8 a1)),.inv z_a0 (cu k a0)]) (r0:=λ_=>.tup .any) rfl rfl Um (λrec hp ha hb hs hpe hN hv l=>?_) (λdl z6=>vR (λhj=>?_) (λhj=>?_))
 .
  rcases rec with⟨st0,pe0,fn0,tm0,ps0,as0,bd0,df0⟩;dsimp only at hp ha hb hs hpe hN hv;subst hp hs hpe;have vN:Di tm0 [(2,Pt b1),(3,Pt b2),(5,Pt b3)]:=⟨congrArg A.eq (hv 2 _ rfl).symm,congrArg A.eq (hv 3 _ rfl).symm,congrArg A.eq (hv 5 _ rfl).symm,trivial⟩;refine cC.pick (M:=(eP Tryz.prog)) [1,0,2,3,4,5,6,7] [1,0,2,3,4,5,6,7] (pY (λ(z6:Value) (q:(List Int)×Bool)=>[.raw l (.loop (lI ⟨.ready,none,fn0,tm0, #[13],as0,bd0,df0⟩ (SH q.2))),.obj c 123 (be a0 z_a0),.obj b1 66 (Pt c),.obj b3 67 (.eq z6),.sl z6 70 (.int .u8) q.1,.obj b2 70 (.eq (.int .u8 a1)),.inv z_a0 (cu k a0)]) l (sR (λ(y5:(List Int)) (p7:Int)=>
  (dD k a0 p7 a1).bind λr9=>
  if r9=true then((bV (bb (length y5+length [p7]))).bind λ_=>
  some (y5++[p7],true)) else(some (y5,true)))) k a0.1 b4 (λz6 q p r' h=>?_) (.slice none 0 0) (([]:(List Int)),false) r8 s) rfl (λ_=>rfl) (λ_=>rfl)
  obtain⟨rq,hq,h2,rfl⟩:=vS h;obtain⟨y5,b5⟩:=q;obtain rfl:b5=false:=hq;replace h:=aW h2;obtain⟨p7,hpv⟩:∃x,x=p:=⟨_,rfl⟩;subst hpv;refine YT.pick (R':=(λz6:Value=>(.eq (.bool rq.2),[.raw l (.loop (lI ⟨.ready,none,fn0,tm0, #[13],as0,bd0,df0⟩ (SH (!rq.2)))),.obj c 123 (be a0 z_a0),.obj b1 66 (Pt c),.obj b3 67 (.eq z6),.sl z6 70 (.int .u8) rq.1,.obj b2 70 (.eq (.int .u8 a1)),.inv z_a0 (cu k a0)]))) [0,1,2,3,4,5,6] [0,1,2,3,4,5,6] (K6 ha hb (N:=23) (Γ:=[(2,Pt b1),(3,Pt b2),(5,Pt b3)]) rfl hN (by decide) vN (λS w=>?_)) rfl (λ_=>rfl) (λ_=>rfl);refine ae (aq (nl ?_));refine Dq rfl rfl ?_;refine ah (sr (fr 2 ?_));refine lo MC ?_;refine mq ?_;refine fr 5 ?_;refine lo pA ?_;obtain⟨r9,n,h⟩:=aa h;refine fr 6 ?_;refine fr 4 ?_;refine aU (Δ:=[_,_]) (F:=_) (λ_ _ _=>aj rfl _) rfl rfl (bp [.tmp 14,.tmp 15,.tmp 16] rfl rfl V7 rfl (po k a0 c z_a0 p7 a1 r9 n)) ⟨rfl,rfl,rfl,trivial⟩ λ_=>?_;refine nt (cv h (λh=>?_) (λh=>?_))
  .refine ae (fr 5 ?_);refine lo zD ?_;refine mq ?_;refine ja (aR (t:=(.int .u8)) [(.tmp 19,_)] [p7] rfl rfl MO (.cons rfl .int .nil) rfl rfl) ?_;obtain⟨u,e,h⟩:=aa h;refine fr 6 ?_;refine cz rfl rfl rfl (bi rfl rfl MO (ap e)) ⟨rfl,rfl,trivial⟩ λj=>?_;refine m9 λo12=>?_;refine fr 1 ?_;refine aS rfl rfl (aN rfl zD o12 rfl rfl) ⟨rfl,rfl,trivial⟩ ?_;refine aG (aI (bH 3 rfl ?_));refine bH 4 rfl ?_;refine bH 3 rfl ?_;refine bH 3 rfl ?_;refine bH 5 rfl ?_;refine bH 5 rfl ?_;refine bH 6 rfl ?_;cases h;exact qY j 6 rfl
  .refine ba (aI (bH 1 rfl ?_));refine bH 2 rfl ?_;refine bH 6 rfl ?_;refine bH 6 rfl ?_;refine bH 5 rfl ?_;refine bH 5 rfl ?_;refine bH 6 rfl ?_;cases h;exact qY z6 6 rfl
 .
  replace h:=bZ (Ih hj) h;refine aI (tn (sr (fr 4 ?_)));refine lo zD ?_;refine aq (nt (aD ?_));refine bH 5 rfl ?_;refine bv (iU (off:=0) [4,22] ⟨rfl,rfl,trivial⟩ rfl rfl) ?_;refine bH 1 rfl ?_;refine GK ?_;refine bv (SE.fin (Γ':=[(4,_)]) [2,5,0,1,3,4] ⟨rfl,trivial⟩ rfl) ?_;cases h;exact aV () [_] 2 ⟨rfl,trivial⟩ rfl
 .
  replace h:=dO (Ig hj) h;cases h
def jR(k:Nat)(a0:ab)(a1:(List Int))(a2:(List Int))(a3:(List Int)):Option ((Option ab)×(List Int)×Int):=
 (li k a0 ([]:(List Int)) a1 a2 a3).bind λr2=>
 ib r2.1 (if¬(r2.2.2=0) then(some (none,([]:(List Int)),r2.2.2)) else(none)) (λq3=>if¬(r2.2.2=0) then(some (none,([]:(List Int)),r2.2.2)) else((fo k q3 0).bind λr5=>
 if(r5.length:Int)=0 then(some (none,([]:(List Int)),9)) else(some (some q3,r5,0))))
theorem lV(k:Nat)(a0:ab)(a1:(List Int))(a2:(List Int))(a3:(List Int))(r:(Option ab)×(List Int)×Int)(h:jR k a0 a1 a2 a3=some r):
 cC (eP Tryz.prog) 31 [.rep am a0,.rep Tl a1,.rep Tl a2,.rep Tl a3] [] (λz:Nat×Nat=>(bz [M7 r.1 z.1,.rep (.slice (.int .u8)) r.2.1,I r.2.2],M6 r.1 λq=>sK q z.1 z.2 k)):=by
 unfold jR at h
 replace h:=aW h
 refine cC.of 34 Tryz.func31 rfl Tryz.ntmps31 rfl λS w0=>?_
 refine sr ?_
 refine bx λb1=>?_
 refine cq ?_
 refine cq ?_
 refine cq ?_
 refine nt ?_
 refine sr ?_
 refine lo cY ?_
 iterate 3 refine mq ?_
 obtain⟨r2,j,h⟩:=aa h
 have c:=nB k a0 ([]:(List Int)) a1 a2 a3 r2 j
 rcases hr:r2.1 with _ |q3
 .
  rw [hr] at h c;replace h:=xb h;refine aU (Δ:=[]) (F:=_) (λ_ _ _=>aj rfl _) rfl rfl (bX (N:=[(.tmp 16,.rep am a0),(.const (.slice none 0 0),.eq (.slice none 0 0)),(.tmp 17,.rep Tl a1),(.tmp 18,.rep Tl a2),(.tmp 19,.rep Tl a3)]) (bp [.tmp 16,.const (.slice none 0 0),.tmp 17,.tmp 18,.tmp 19] rfl rfl CP rfl c) λ_ _ _ hn=>⟨hn.1,(aM (t:=Tl) (x:=([]:(List Int))) .nil rfl rfl hn.2.1),hn.2.2.1,hn.2.2.2.1,hn.2.2.2.2.1,trivial⟩) ⟨rfl,rfl,rfl,rfl,rfl,trivial⟩ λ_=>?_;refine mq ?_;refine xr ?_;refine xr ?_;refine xr ?_;refine aq ?_;refine aq ?_;refine aq (nt (ai (sr ?_)));refine mq ?_;refine jb (dZ rfl) ?_;refine nt (cn h (λh=>?_) (λh=>?_))
  .refine sr (mq ?_);refine cq ?_;refine cq ?_;refine aq (nt (rx ?_));refine bv (dA (t:=(.slice (.int .u8))) (x:=([]:(List Int))) 9 rfl .nil rfl rfl) ?_;cases h;exact aV (0,0) [.eq (.pointer none),_,_] 0 ⟨rfl,rfl,rfl,trivial⟩ rfl
  .cases h
 .
  rw [hr] at h c;replace h:=wZ h;refine aU (Δ:=[]) (F:=_) (λ_ _ _=>aj rfl _) rfl rfl (bX (N:=[(.tmp 16,.rep am a0),(.const (.slice none 0 0),.eq (.slice none 0 0)),(.tmp 17,.rep Tl a1),(.tmp 18,.rep Tl a2),(.tmp 19,.rep Tl a3)]) (bp [.tmp 16,.const (.slice none 0 0),.tmp 17,.tmp 18,.tmp 19] rfl rfl CP rfl c) λ_ _ _ hn=>⟨hn.1,(aM (t:=Tl) (x:=([]:(List Int))) .nil rfl rfl hn.2.1),hn.2.2.1,hn.2.2.2.1,hn.2.2.2.2.1,trivial⟩) ⟨rfl,rfl,rfl,rfl,rfl,trivial⟩ λz4=>?_;refine mq ?_;refine xr ?_;refine xr ?_;refine xr ?_;refine aq ?_;refine aq ?_;refine aq (nt (ai (sr ?_)));refine mq ?_;refine jb (dZ rfl) ?_;refine nt (cn h (λh=>?_) (λh=>?_))
  .refine sr (mq ?_);refine cq ?_;refine cq ?_;refine aq (nt (rx ?_));refine bv (dA (t:=(.slice (.int .u8))) (x:=([]:(List Int))) 9 rfl .nil rfl rfl) ?_;cases h;exact aV (0,0) [.eq (.pointer none),_,_] 0 ⟨rfl,rfl,rfl,trivial⟩ rfl
  .refine sk (sr (mq ?_));obtain⟨r5,e,h⟩:=aa h;refine fr 1 ?_;refine fr 1 ?_;refine aU (Δ:=[_,_]) (F:=_) (λ_ _ _=>aj rfl _) rfl rfl (bp [.tmp 27,.const (.int .u8 (0))] rfl rfl Ur rfl (lP k q3 z4.1 z4.2 0 r5 e)) ⟨rfl,rfl,trivial⟩ λ_=>?_;refine aq (nt (ai (sr ?_)));refine mq ?_;refine ol AW ?_;refine jb (jO rfl) ?_;refine nt (ci h (λh=>?_) (λh=>?_))
   .refine sr (cq ?_);refine cq ?_;refine cq (nt (rx ?_));refine bv (dA (t:=(.slice (.int .u8))) (x:=([]:(List Int))) 9 rfl .nil rfl rfl) ?_;cases h;exact aV (0,0) [.eq (.pointer none),_,_] 0 ⟨rfl,rfl,rfl,trivial⟩ rfl
   .refine sk (sr ?_);iterate 2 refine mq ?_
    refine aq ?_;refine aq ?_;refine cq (nt (aD ?_));cases h;exact aV (z4.1,z4.2) [.eq (.pointer (some ⟨z4.1,0,none⟩)),_,_] 2 ⟨rfl,rfl,rfl,trivial⟩ rfl
def kT(k:Nat)(a1:Int)(a2:Int)(y4:(List (List (List Int)))×Int)(h:(List Int)):Nat->((List Int)×Int)->Option (List Int)
 |0,_=>none
 |n+1,c=>
  if c.2 < (h.length:Int) then((((aH h c.2).bind λe=>
  ((if y4.2 < a1 then(some true) else((fW k a2 e).bind λs=>
  some (!s))):Option (Bool)).bind λl=>
  if l=true then((bV (bb (length c.1+length [e]))).bind λ_=>
  some (c.1++[e])) else(some c.1)):Option ((List Int))).bind λr=>
  (ck (c.2+1)).bind λj=>
  kT k a1 a2 y4 h n (r,j)) else(some c.1)
def kU(k:Nat)(a1:Int)(a2:Int)(y4:(List (List (List Int)))×Int)(x8:(List (List Int))):Nat->((List (List Int))×Int)->Option (List (List Int))
 |0,_=>none
 |n+1,c=>
  if c.2 < (x8.length:Int) then((((aH x8 c.2).bind λj=>
  ((kT k a1 a2 y4 j k (([]:(List Int)),0)):Option ((List Int))).bind λe=>
  (bV (bb (length c.1+length [e]))).bind λ_=>
  some (c.1++[e])):Option ((List (List Int)))).bind λl=>
  (ck (c.2+1)).bind λh=>
  kU k a1 a2 y4 x8 n (l,h)) else(some c.1)
def kV(k:Nat)(a0:ab)(a1:Int)(a2:Int):Nat->((List (List (List Int)))×Int)->Option (List (List (List Int)))
 |0,_=>none
 |n+1,y4=>
  if y4.2 < (a0.2.2.2.2.1.length:Int) then((((aH a0.2.2.2.2.1 y4.2).bind λx8=>
  ((kU k a1 a2 y4 x8 k (([]:(List (List Int))),0)):Option ((List (List Int)))).bind λx9=>
  (bV (bb (length y4.1+length [x9]))).bind λ_=>
  some (y4.1++[x9])):Option ((List (List (List Int))))).bind λx6=>
  (ck (y4.2+1)).bind λc=>
  kV k a0 a1 a2 n (x6,c)) else(some y4.1)
def oO(k:Nat)(a0:ab)(a1:Int)(a2:Int):Option (Option ab):=
 ((kV k a0 a1 a2 k (([]:(List (List (List Int)))),0)):Option ((List (List (List Int))))).bind λx2=>
 (kj k (a0.1,a0.2.1,a0.2.2.1,a0.2.2.2.1,x2,a0.2.2.2.2.2)).bind λc=>
 ib c (some none) (λe=>some (some e))
theorem yd(k:Nat)(a0:ab)(a1:Int)(a2:Int)(r:(Option ab))(h:oO k a0 a1 a2=some r):
 cX Tryz.prog 47 [.rep am a0,I a1,.eq (.int .u8 a2)] [] (λz:Nat×Nat=>(bz [M7 r z.1],M6 r λq=>sK q z.1 z.2 k)):=by
 unfold oO at h
 replace h:=aW h
 refine cX.of 69 Tryz.func47 rfl Tryz.ntmps47 rfl λS w0=>?_
 refine sr ?_
 refine bx λb1=>?_
 refine cq ?_
 refine nt ?_
 refine sr ?_
 refine fl bW ?_
 refine lo fq ?_
 refine mq ?_
 refine ja (t6 [.tmp 19] [] [(.int .u8 a2)] [] rfl rfl rfl) ?_
 refine aq ?_
 refine aq ?_
 refine nt ?_
 refine sr ?_
 refine fl bW ?_
 refine aS rfl rfl (aN rfl fq rfl rfl rfl) ⟨rfl,rfl,trivial⟩ ?_
 refine nt ?_
 refine aC (Z:=Value) (α:=(List (List (List Int)))) (λz3 x2=>[(3,Pt b1)]) (λz3 x2=>[.obj b1 25 (.agg (.pair (I a0.1) (.pair (I a0.2.1) (.pair (I a0.2.2.1) (.pair (I a0.2.2.2.1) (.pair (.eq z3) (Rs aL a0.2.2.2.2.2))))))),.sl z3 36 (.slice Tl) x2]) h (λK h=>?_) (λz3 x2 h=>?_)
 .
  refine sr (mq ?_);refine ol pq ?_;refine fF rfl ?_;refine nt (ah (gi (SE.nil 36 (.slice Tl)) ?_));refine dU 1 rfl ?_;refine gi (ie (a:=.agg (.pair (.rep Ti a0.1) (.pair (.rep Ti a0.2.1) (.pair (.rep Ti a0.2.2.1) (.pair (.rep Ti a0.2.2.2.1) (.pair (.eq (.slice none 0 0)) (Rs aL a0.2.2.2.2.2))))))) (a':=.agg (.pair (I a0.1) (.pair (I a0.2.1) (.pair (I a0.2.2.1) (.pair (I a0.2.2.2.1) (.pair (.eq (.slice none 0 0)) (Rs aL a0.2.2.2.2.2))))))) (AE.agg (AE.pair AE.int (AE.pair AE.int (AE.pair AE.int (AE.pair AE.int AE.rfl)))))) ?_;refine aE (λz5 y4=>[(1,I a1),(3,Pt b1),(8,.eq (.func (.func 66) #[(.int .u8 a2)] #[])),(22,.rep (.slice (.slice Tl)) a0.2.2.2.2.1),(23,I (a0.2.2.2.2.1.length:Int)),(24,I y4.2)]) (λz5 y4=>[.obj b1 25 (.agg (.pair (I a0.1) (.pair (I a0.2.1) (.pair (I a0.2.2.1) (.pair (I a0.2.2.2.1) (.pair (.eq z5) (Rs aL a0.2.2.2.2.2))))))),.sl z5 36 (.slice Tl) y4.1]) (kV k a0 a1 a2) k (.slice none 0 0) (([]:(List (List (List Int)))),0) (λ_=>rfl) h (SE.fin [0,1] ⟨rfl,rfl,rfl,rfl,rfl,rfl,trivial⟩ rfl) (λn z5 y4 h=>?_);unfold kV at h;refine sr (jb (bj rfl) ?_);refine nt (ai (ci h (λh=>?_) (λh=>?_)))
  .refine sk (aC (Z:=Value) (α:=(List (List (List Int)))) (λz7 x6=>[(1,I a1),(3,Pt b1),(8,.eq (.func (.func 66) #[(.int .u8 a2)] #[])),(22,.rep (.slice (.slice Tl)) a0.2.2.2.2.1),(23,I (a0.2.2.2.2.1.length:Int)),(24,I y4.2)]) (λz7 x6=>[.obj b1 25 (.agg (.pair (I a0.1) (.pair (I a0.2.1) (.pair (I a0.2.2.1) (.pair (I a0.2.2.2.1) (.pair (.eq z7) (Rs aL a0.2.2.2.2.2))))))),.sl z7 36 (.slice Tl) x6]) h (λK h=>?_) (λz7 x6 h=>?_))
   .refine ah (sr (mq ?_));obtain⟨x8,XL,h⟩:=aa h;refine jb (ay (t:=(.slice Tl)) rfl pq kB XL) ?_;refine ja (ak (t:=(.slice Tl)) rfl kB rfl) ?_;refine aq ?_;refine aq (nt (sr ?_));refine cq (nt ?_);refine aC (Z:=Value) (α:=(List (List Int))) (λQ x9=>[(1,I a1),(3,Pt b1),(8,.eq (.func (.func 66) #[(.int .u8 a2)] #[])),(11,.eq Q),(22,.rep (.slice (.slice Tl)) a0.2.2.2.2.1),(23,I (a0.2.2.2.2.1.length:Int)),(24,I y4.2)]) (λQ x9=>[.obj b1 25 (.agg (.pair (I a0.1) (.pair (I a0.2.1) (.pair (I a0.2.2.1) (.pair (I a0.2.2.2.1) (.pair (.eq z5) (Rs aL a0.2.2.2.2.2))))))),.sl z5 36 (.slice Tl) y4.1,.sl Q 28 Tl x9]) h (λK h=>?_) (λQ x9 h=>?_)
    .refine sr (mq ?_);refine ol nk ?_;refine fF rfl ?_;refine nt (ah (gi (SE.nil 28 Tl) ?_));refine aE (λe c=>[(1,I a1),(3,Pt b1),(8,.eq (.func (.func 66) #[(.int .u8 a2)] #[])),(9,I y4.2),(11,.eq e),(22,.rep (.slice (.slice Tl)) a0.2.2.2.2.1),(23,I (a0.2.2.2.2.1.length:Int)),(24,I y4.2),(29,.rep (.slice Tl) x8),(30,I (x8.length:Int)),(31,I c.2)]) (λe c=>[.obj b1 25 (.agg (.pair (I a0.1) (.pair (I a0.2.1) (.pair (I a0.2.2.1) (.pair (I a0.2.2.2.1) (.pair (.eq z5) (Rs aL a0.2.2.2.2.2))))))),.sl z5 36 (.slice Tl) y4.1,.sl e 28 Tl c.1]) (kU k a1 a2 y4 x8) k (.slice none 0 0) (([]:(List (List Int))),0) (λ_=>rfl) h (SE.fin [1,2,0] ⟨rfl,rfl,rfl,rfl,rfl,rfl,rfl,rfl,rfl,rfl,rfl,trivial⟩ rfl) (λn e c h=>?_);unfold kU at h;refine sr (jb (bj rfl) ?_);refine nt (ai (ci h (λh=>?_) (λh=>?_)))
     .refine sk (aC (Z:=Value) (α:=(List (List Int))) (λE X=>[(1,I a1),(3,Pt b1),(8,.eq (.func (.func 66) #[(.int .u8 a2)] #[])),(9,I y4.2),(11,.eq E),(22,.rep (.slice (.slice Tl)) a0.2.2.2.2.1),(23,I (a0.2.2.2.2.1.length:Int)),(24,I y4.2),(29,.rep (.slice Tl) x8),(30,I (x8.length:Int)),(31,I c.2)]) (λE X=>[.obj b1 25 (.agg (.pair (I a0.1) (.pair (I a0.2.1) (.pair (I a0.2.2.1) (.pair (I a0.2.2.2.1) (.pair (.eq z5) (Rs aL a0.2.2.2.2.2))))))),.sl z5 36 (.slice Tl) y4.1,.sl E 28 Tl X]) h (λK h=>?_) (λE X h=>?_))
      .refine ah (sr ?_);obtain⟨u,Xz,h⟩:=aa h;refine jb (ay (t:=Tl) rfl nk ew Xz) ?_;refine ja (ak (t:=Tl) rfl ew rfl) ?_;refine aq (nt (sr ?_));refine cq (nt ?_);refine aC (Z:=Value) (α:=(List Int)) (λO M=>[(1,I a1),(3,Pt b1),(8,.eq (.func (.func 66) #[(.int .u8 a2)] #[])),(9,I y4.2),(11,.eq e),(14,.eq O),(22,.rep (.slice (.slice Tl)) a0.2.2.2.2.1),(23,I (a0.2.2.2.2.1.length:Int)),(24,I y4.2),(29,.rep (.slice Tl) x8),(30,I (x8.length:Int)),(31,I c.2)]) (λO M=>[.obj b1 25 (.agg (.pair (I a0.1) (.pair (I a0.2.1) (.pair (I a0.2.2.1) (.pair (I a0.2.2.2.1) (.pair (.eq z5) (Rs aL a0.2.2.2.2.2))))))),.sl z5 36 (.slice Tl) y4.1,.sl e 28 Tl c.1,.sl O 3 Ti M]) h (λK h=>?_) (λO M h=>?_)
       .refine sr (mq ?_);refine ol fD ?_;refine fF rfl ?_;refine nt (ah (gi (SE.nil 3 Ti) ?_));refine aE (λl j=>[(1,I a1),(3,Pt b1),(8,.eq (.func (.func 66) #[(.int .u8 a2)] #[])),(9,I y4.2),(11,.eq e),(14,.eq l),(22,.rep (.slice (.slice Tl)) a0.2.2.2.2.1),(23,I (a0.2.2.2.2.1.length:Int)),(24,I y4.2),(29,.rep (.slice Tl) x8),(30,I (x8.length:Int)),(31,I c.2),(35,.rep Tl u),(36,I (u.length:Int)),(37,I j.2)]) (λl j=>[.obj b1 25 (.agg (.pair (I a0.1) (.pair (I a0.2.1) (.pair (I a0.2.2.1) (.pair (I a0.2.2.2.1) (.pair (.eq z5) (Rs aL a0.2.2.2.2.2))))))),.sl z5 36 (.slice Tl) y4.1,.sl e 28 Tl c.1,.sl l 3 Ti j.1]) (kT k a1 a2 y4 u) k (.slice none 0 0) (([]:(List Int)),0) (λ_=>rfl) h (SE.fin [1,2,3,0] ⟨rfl,rfl,rfl,rfl,rfl,rfl,rfl,rfl,rfl,rfl,rfl,rfl,rfl,rfl,rfl,trivial⟩ rfl) (λn l j h=>?_);unfold kT at h;refine sr (jb (bj rfl) ?_);refine nt (ai (ci h (λh=>?_) (λh=>?_)))
        .refine sk (aC (Z:=Value) (α:=(List Int)) (λD U=>[(1,I a1),(3,Pt b1),(8,.eq (.func (.func 66) #[(.int .u8 a2)] #[])),(9,I y4.2),(11,.eq e),(14,.eq D),(22,.rep (.slice (.slice Tl)) a0.2.2.2.2.1),(23,I (a0.2.2.2.2.1.length:Int)),(24,I y4.2),(29,.rep (.slice Tl) x8),(30,I (x8.length:Int)),(31,I c.2),(35,.rep Tl u),(36,I (u.length:Int)),(37,I j.2)]) (λD U=>[.obj b1 25 (.agg (.pair (I a0.1) (.pair (I a0.2.1) (.pair (I a0.2.2.1) (.pair (I a0.2.2.2.1) (.pair (.eq z5) (Rs aL a0.2.2.2.2.2))))))),.sl z5 36 (.slice Tl) y4.1,.sl e 28 Tl c.1,.sl D 3 Ti U]) h (λK h=>?_) (λD U h=>?_))
         .refine ah (sr ?_);obtain⟨J,Xy,h⟩:=aa h;refine jb (ay (t:=Ti) rfl fD bJ Xy) ?_;refine ja (ak (t:=Ti) rfl bJ rfl) ?_;refine aq (nt ?_);refine aC (Z:=Unit) (α:=Bool) (λmw mc=>[(1,I a1),(3,Pt b1),(8,.eq (.func (.func 66) #[(.int .u8 a2)] #[])),(9,I y4.2),(11,.eq e),(14,.eq l),(16,I J),(22,.rep (.slice (.slice Tl)) a0.2.2.2.2.1),(23,I (a0.2.2.2.2.1.length:Int)),(24,I y4.2),(29,.rep (.slice Tl) x8),(30,I (x8.length:Int)),(31,I c.2),(35,.rep Tl u),(36,I (u.length:Int)),(37,I j.2),(49,.eq (.bool mc))]) (λmw mc=>[.obj b1 25 (.agg (.pair (I a0.1) (.pair (I a0.2.1) (.pair (I a0.2.2.1) (.pair (I a0.2.2.2.1) (.pair (.eq z5) (Rs aL a0.2.2.2.2.2))))))),.sl z5 36 (.slice Tl) y4.1,.sl e 28 Tl c.1,.sl l 3 Ti j.1]) h (λK h=>?_) (λmw mc h=>?_)
          .refine ae ?_;iterate 2 refine mq ?_
           refine jb (bj rfl) ?_;refine mq ?_;refine bU (s:=44) rfl (λhb=>?_) (λhb=>?_)
           .replace h:=dO (uE hb) h;iterate 4 refine gn ?_
            refine pt (nl ?_);exact jz ((),true) h [0,1,2,3]
           .replace h:=bZ (uF hb) h;refine gm ?_;refine gm ?_;obtain⟨zz,XE,h⟩:=aa h;refine gb (vy (fs:=[(.int .u8 a2)]) (cs:=[]) (ags:=[I J]) [.tmp 46] rfl rfl KN rfl (iO k a2 J zz XE)) ?_;refine ga (eS rfl) ?_;refine pf (nl ?_);exact jz ((), !zz) h [0,1,2,3]
          .refine cv h (λh=>?_) (λh=>?_)
           .refine ae ?_;iterate 2 refine mq ?_
            refine ja (aR (t:=Ti) [(.tmp 51,_)] [J] rfl rfl cH (.cons rfl .int .nil) rfl rfl) ?_;obtain⟨XN,XC,h⟩:=aa h;refine fr 3 ?_;refine cz rfl rfl rfl (bi rfl rfl cH (ap XC)) ⟨rfl,rfl,trivial⟩ λXK=>?_;refine aq (aG (bn ?_));exact jz (XK,j.1++[J]) h [1,2,3,0]
           .refine ba (bn ?_);exact jz (l,j.1) h [0,1,2,3]
         .refine ae ?_;obtain⟨XH,Xx,h⟩:=aa h;refine jb (bh rfl Xx) ?_;refine mq (nl ?_);exact jz (D,(U,XH)) h [0,1,2,3]
        .refine xa ?_;exact jz (l,j.1) h [0,1,2,3]
       .refine ae ?_;iterate 2 refine mq ?_
        refine fr 3 ?_;refine eQ (fy [14,56] ⟨rfl,rfl,trivial⟩) ?_;refine ja (aR (t:=Tl) [(.tmp 56,_)] [M] rfl rfl lS (.cons rfl .rep .nil) rfl rfl) ?_;obtain⟨XM,XB,h⟩:=aa h;refine fr 2 ?_;refine cz rfl rfl rfl (bi rfl rfl lS (ap XB)) ⟨rfl,rfl,trivial⟩ λXJ=>?_;refine aq (aG (bn ?_));exact jz (XJ,c.1++[M]) h [1,2,0]
      .refine ae ?_;obtain⟨XG,Xw,h⟩:=aa h;refine jb (bh rfl Xw) ?_;refine mq (nl ?_);exact jz (E,(X,XG)) h [0,1,2]
     .refine xa ?_;exact jz (e,c.1) h [0,1,2]
    .refine ae (fl bW ?_);refine lo fq ?_;refine mq ?_;refine fr 2 ?_;refine eQ (fy [11,62] ⟨rfl,rfl,trivial⟩) ?_;refine ja (aR (t:=(.slice Tl)) [(.tmp 62,_)] [x9] rfl rfl vW (.cons rfl .rep .nil) rfl rfl) ?_;obtain⟨u32,XA,h⟩:=aa h;refine fr 1 ?_;refine cz rfl rfl rfl (bi rfl rfl vW (ap XA)) ⟨rfl,rfl,trivial⟩ λXI=>?_;refine fl bW ?_;refine m9 λo34=>?_;refine fr 1 ?_;refine aS rfl rfl (aN rfl fq o34 rfl rfl) ⟨rfl,rfl,trivial⟩ ?_;refine aG (bn ?_);exact jz (XI,y4.1++[x9]) h [0,1]
   .refine ae ?_;obtain⟨XF,Xv,h⟩:=aa h;refine jb (bh rfl Xv) ?_;refine mq (nl ?_);exact jz (z7,(x6,XF)) h [0,1]
  .refine xa ?_;exact jz (z5,y4.1) h [0,1]
 .
  refine sr (fr 1 ?_);refine eQ (iU (off:=4) [] trivial rfl rfl) ?_;refine lo cY ?_;obtain⟨qt,XD,h⟩:=aa h;have y:=pe k (a0.1,a0.2.1,a0.2.2.1,a0.2.2.2.1,x2,a0.2.2.2.2.2) qt XD;rcases hr:qt with _ |XO
  .rw [hr] at h y;replace h:=xb h;refine aU (Δ:=[]) (F:=_) (λ_ _ _=>aj rfl _) rfl rfl (bX (N:=[(.tmp 67,.agg (.pair (I a0.1) (.pair (I a0.2.1) (.pair (I a0.2.2.1) (.pair (I a0.2.2.2.1) (.pair (.rep (.slice (.slice Tl)) x2) (Rs aL a0.2.2.2.2.2)))))))]) (au [.tmp 67] rfl rfl Oe rfl y) λ_ _ _ hn=>⟨(aM (t:=am) (x:=(a0.1,a0.2.1,a0.2.2.1,a0.2.2.2.1,x2,a0.2.2.2.2.2)) (.agg (.pair .int (.pair .int (.pair .int (.pair .int (.pair .rep .rep)))))) trivial rfl hn.1),trivial⟩) ⟨rfl,trivial⟩ λ_=>?_;refine aq (nt (aD ?_));cases h;exact aV (0,0) [.eq (.pointer none)] 0 ⟨rfl,trivial⟩ rfl
  .rw [hr] at h y;replace h:=wZ h;refine aU (Δ:=[]) (F:=_) (λ_ _ _=>aj rfl _) rfl rfl (bX (N:=[(.tmp 67,.agg (.pair (I a0.1) (.pair (I a0.2.1) (.pair (I a0.2.2.1) (.pair (I a0.2.2.2.1) (.pair (.rep (.slice (.slice Tl)) x2) (Rs aL a0.2.2.2.2.2)))))))]) (au [.tmp 67] rfl rfl Oe rfl y) λ_ _ _ hn=>⟨(aM (t:=am) (x:=(a0.1,a0.2.1,a0.2.2.1,a0.2.2.2.1,x2,a0.2.2.2.2.2)) (.agg (.pair .int (.pair .int (.pair .int (.pair .int (.pair .rep .rep)))))) trivial rfl hn.1),trivial⟩) ⟨rfl,trivial⟩ λY=>?_;refine aq (nt (aD ?_));cases h;exact aV (Y.1,Y.2) [.eq (.pointer (some ⟨Y.1,0,none⟩))] 2 ⟨rfl,trivial⟩ rfl
def fY(k:Nat)(a0:ab)(r1:(List (List Int)))(y5:Int):Nat->Int->Option (Except Bool Unit)
 |0,_=>none
 |n+1,c=>
  if c < a0.1 then((((aH r1 y5).bind λs=>
  (aH s c).bind λr=>
  if r < 0 then((ck (y5+1)).bind λl=>
  (aH r1 l).bind λj=>
  (aH j c).bind λh=>
  some (decide (h=0))) else(some false)):Option (Bool)).bind λu=>
  if u=true then(some (.error true)) else((ck (c+1)).bind λe=>
  fY k a0 r1 y5 n e)) else(some (.ok ()))
def fZ(k:Nat)(a0:ab)(r1:(List (List Int))):Nat->Int->Option (Except Bool Unit)
 |0,_=>none
 |n+1,y5=>
  if y5 < (a0.2.2.2.2.1.length:Int) then(bE (α:=Unit) ((ck (y5+1)).bind λx9=>
  (aH r1 x9).bind λh=>
  (aH r1 y5).bind λc=>
  (bV (zI h/\zI c)).bind λ_=>
  if h=c then(some (.ok ())) else(fY k a0 r1 y5 k 0)) (λe=>some (.error e)) λ_=>
  (ck (y5+1)).bind λj=>
  fZ k a0 r1 n j) else(some (.ok ()))
def kl(k:Nat)(a0:ab)(a1:Int)(a2:Int):Option Bool:=
 (mV k a0 a1).bind λr1=>
 bE (α:=Unit) (fZ k a0 r1 k a2) (some) λ_=>
 some false
theorem pW(k:Nat)(a0:ab)(c z_a0:Nat)(a1:Int)(a2:Int)(r:Bool)(h:kl k a0 a1 a2=some r):
 cC (eP Tryz.prog) 49 [Pt c,.eq (.int .u8 a1),I a2] [.obj c 123 (be a0 z_a0),.inv z_a0 (cu k a0)] (λ_:Unit=>(bz [.eq (.bool r)],[.obj c 123 (be a0 z_a0),.inv z_a0 (cu k a0)])):=by
 unfold kl at h
 replace h:=aW h
 refine cC.of 56 Tryz.func49 rfl Tryz.ntmps49 rfl λS w0=>?_
 refine sr ?_
 refine cq ?_
 refine nt ?_
 refine sr ?_
 iterate 2 refine mq ?_
 obtain⟨r1,Xw,h⟩:=aa h
 have Xx:=qQ k a0 c z_a0 a1 r1 Xw
 refine fr 1 ?_
 refine fr 1 ?_
 refine aU (Δ:=[_,_]) (F:=_) (λ_ _ _=>aj rfl _) rfl rfl (bp [.tmp 10,.tmp 11] rfl rfl HC rfl Xx) ⟨rfl,rfl,trivial⟩ λ_=>?_
 refine bf rfl rfl rfl (bA rfl AY Dc) trivial λb2=>?_
 refine aS rfl rfl (aN rfl Bl rfl rfl rfl) ⟨rfl,rfl,trivial⟩ ?_
 refine eQ (kN (t:=(.arr 7 Tr)) (x:=r1) [7] .rep ⟨rfl,trivial⟩) ?_
 refine nt ?_
 refine cO (Z:=Unit) (α:=Unit) (λz4 x3=>[]) (λz4 x3=>[.obj c 123 (be a0 z_a0),.inv z_a0 (cu k a0)]) (λe=>e=r) h (λe h=>Option.some.inj h) (λK hR h=>?_) (λz4 x3 h=>?_)
 .
  refine sr (mq ?_);refine aq (nt (ah ?_));refine aE (λz6 y5=>[(0,Pt c),(7,.at (.arr 7 Tr) r1),(8,I y5)]) (λz6 y5=>[.obj c 123 (be a0 z_a0),.inv z_a0 (cu k a0)]) (fZ k a0 r1) k () a2 (λ_=>rfl) h (SE.fin [0,1] ⟨rfl,rfl,rfl,trivial⟩ rfl) (λn z6 y5 h=>?_);unfold fZ at h;refine ai (sr ?_);iterate 2 refine mq ?_
  refine ja (cZ rfl) ?_;refine fl i9 ?_;refine fl bW ?_;refine lo fq ?_;refine ol pq ?_;refine jb (bj rfl) ?_;refine nt (ci h (λh=>?_) (λh=>?_))
  .refine sk (cO (Z:=Unit) (α:=Unit) (λz8 x7=>[(0,Pt c),(7,.at (.arr 7 Tr) r1),(8,I y5)]) (λz8 x7=>[.obj c 123 (be a0 z_a0),.inv z_a0 (cu k a0)]) (λe=>e=r) h (λe h=>hR e h) (λK hR h=>?_) (λz8 x7 h=>?_))
   .refine ah (ai (ai (bu ?_)));refine dm ?_;obtain⟨x9,Xv,h⟩:=aa h;refine db (bh rfl Xv) ?_;obtain⟨XD,mc,h⟩:=aa h;refine db (cM (t:=Tr) rfl yl gh mc) ?_;refine da (ak (t:=Tr) rfl gh rfl) ?_;refine dm ?_;obtain⟨XC,Y,h⟩:=aa h;refine db (cM (t:=Tr) rfl yl gh Y) ?_;refine da (ak (t:=Tr) rfl gh rfl) ?_;refine df bY ?_;obtain⟨XE,l,h⟩:=aa h;refine jb (Jy rfl (ap l).1 (ap l).2) ?_;refine nt (ci h (λh=>?_) (λh=>?_))
    .refine f9 (bO (c9 (ax ?_)));exact jz ((),()) h [0,1]
    .refine sk (sr (mq ?_));refine ja (cZ rfl) ?_;refine fl i9 ?_;refine fl fx ?_;refine lo bJ ?_;refine fF rfl ?_;refine nt (ah (aE (λD j=>[(0,Pt c),(7,.at (.arr 7 Tr) r1),(8,I y5),(36,I a0.1),(37,I j)]) (λD j=>[.obj c 123 (be a0 z_a0),.inv z_a0 (cu k a0)]) (fY k a0 r1 y5) k () 0 (λ_=>rfl) h (SE.fin [0,1] ⟨rfl,rfl,rfl,rfl,rfl,trivial⟩ rfl) (λn D j h=>?_)));unfold fY at h;refine sr (jb (bj rfl) ?_);refine nt (ai (ci h (λh=>?_) (λh=>?_)))
     .refine sk (ai (ah (sr (mq ?_))));refine aq (nt ?_);refine aC (Z:=Unit) (α:=Bool) (λy u=>[(0,Pt c),(7,.at (.arr 7 Tr) r1),(8,I y5),(36,I a0.1),(37,I j),(54,.eq (.bool u))]) (λy u=>[.obj c 123 (be a0 z_a0),.inv z_a0 (cu k a0)]) h (λK h=>?_) (λy u h=>?_)
      .refine ae ?_;iterate 2 refine mq ?_
       obtain⟨XB,X,h⟩:=aa h;refine jb (cM (t:=Tr) rfl yl gh X) ?_;obtain⟨XA,U,h⟩:=aa h;refine jb (cM (t:=Ti) rfl sG bJ U) ?_;refine ja (ak (t:=Ti) rfl bJ rfl) ?_;refine jb (bj rfl) ?_;refine mq ?_;refine bU (s:=46) rfl (λhb=>?_) (λhb=>?_)
       .replace h:=dO (uE hb) h;refine gm ?_;obtain⟨Xz,Q,h⟩:=aa h;refine gb (bh rfl Q) ?_;refine gm ?_;obtain⟨Xy,O,h⟩:=aa h;refine gb (cM (t:=Tr) rfl yl gh O) ?_;obtain⟨zz,M,h⟩:=aa h;refine gb (cM (t:=Ti) rfl sG bJ M) ?_;refine ga (ak (t:=Ti) rfl bJ rfl) ?_;refine gb (jO rfl) ?_;refine pt (nl ?_);exact jz ((),decide (zz=0)) h [0,1]
       .replace h:=bZ (uF hb) h;iterate 7 refine gn ?_
        refine pf (nl ?_);exact jz ((),false) h [0,1]
      .refine cv h (λh=>?_) (λh=>?_)
       .refine sr (cq (nt (aD (br (aX (br (aX (bg ?_))))))));obtain rfl:=hR _ h;exact aV () [_] 2 ⟨rfl,trivial⟩ rfl
       .refine ba (aI (tn (ae ?_)));obtain⟨qt,J,h⟩:=aa h;refine jb (bh rfl J) ?_;refine mq (nl ?_);exact jz ((),qt) h [0,1]
     .refine f9 (bO (bO (c9 (bn ?_))));exact jz ((),()) h [0,1]
   .refine ae (mq ?_);obtain⟨mw,E,h⟩:=aa h;refine jb (bh rfl E) ?_;refine aq (nl ?_);exact jz ((),mw) h [0,1]
  .refine xa ?_;exact jz ((),()) h [0,1]
 .
  refine sr (cq (nt (aD ?_)));cases h;exact aV () [_] 2 ⟨rfl,trivial⟩ rfl
def oQ(k:Nat)(a0:Int)(a1:ab)(a2:Int):Option Bool:=
 (kl k a1 a0 a2).bind λr1=>
 some r1
theorem vh(k:Nat)(a0:Int)(a1:ab)(c z_a1 j:Nat)(a2:Int)(e:Nat)(r:Bool)(h:oQ k a0 a1 a2=some r):
 cC (eP Tryz.prog) 48 [.eq (.int .u8 a0),Pt j,Pt e] [.obj c 123 (be a1 z_a1),.inv z_a1 (cu k a1),.obj j 66 (Pt c),.obj e 3 (I a2)] (λ_:Unit=>(bz [.eq (.bool r)],[.obj c 123 (be a1 z_a1),.inv z_a1 (cu k a1),.obj j 66 (Pt c),.obj e 3 (I a2)])):=by
 unfold oQ at h
 replace h:=aW h
 refine cC.of 9 Tryz.func48 rfl Tryz.ntmps48 rfl λS w0=>?_
 refine sr ?_
 refine cq ?_
 refine nt ?_
 refine sr ?_
 refine fr 2 ?_
 refine lo MC ?_
 refine mq ?_
 refine fr 3 ?_
 refine lo bJ ?_
 obtain⟨r1,l,h⟩:=aa h
 have n:=pW k a1 c z_a1 a0 a2 r1 l
 refine fr 3 ?_
 refine fr 3 ?_
 refine aU (Δ:=[_,_]) (F:=_) (λ_ _ _=>aj rfl _) rfl rfl (bp [.tmp 5,.tmp 6,.tmp 7] rfl rfl Wt rfl n) ⟨rfl,rfl,rfl,trivial⟩ λ_=>?_
 refine aq ?_
 refine nt ?_
 refine aD ?_
 refine bv (SE.fin (Γ':=[(4,_)]) [0,1,3,2] ⟨rfl,trivial⟩ rfl) ?_
 cases h
 exact aV () [_] 4 ⟨rfl,trivial⟩ rfl
def fM(k:Nat)(a0:(List Int))(a1_0:ab)(a1_1:Int):Nat->Int->Option (Except Int Unit)
 |0,_=>none
 |n+1,y3=>
  if y3 < (a0.length:Int) then((aH a0 y3).bind λx5=>
  (oQ k x5 a1_0 a1_1).bind λr6=>
  if r6=true then(some (.error y3)) else((ck (y3+1)).bind λx7=>
  fM k a0 a1_0 a1_1 n x7)) else(some (.ok ()))
def j7(k:Nat)(a0:(List Int))(a1_0:ab)(a1_1:Int):Option Int:=
 bE (α:=Unit) (fM k a0 a1_0 a1_1 k 0) (some) λ_=>
 some (-1:Int)
theorem pH(k:Nat)(a0:(List Int))(a1_0:ab)(b_a1_0 z_a1_0 c_a1_0:Nat)(a1_1:Int)(c_a1_1:Nat)(r:Int)(h:j7 k a0 a1_0 a1_1=some r):
 cC (eP Tryz.prog) 78 [.rep (.slice (.int .u8)) a0,.eq (.func (.func 48) #[] #[(Pv c_a1_0),(Pv c_a1_1)])] [.obj b_a1_0 123 (be a1_0 z_a1_0),.inv z_a1_0 (cu k a1_0),.obj c_a1_0 66 (Pt b_a1_0),.obj c_a1_1 3 (I a1_1)] (λ_:Unit=>(bz [I r],[.obj b_a1_0 123 (be a1_0 z_a1_0),.inv z_a1_0 (cu k a1_0),.obj c_a1_0 66 (Pt b_a1_0),.obj c_a1_1 3 (I a1_1)])):=by
 unfold j7 at h
 replace h:=aW h
 refine cC.of 19 Tryz.func78 rfl Tryz.ntmps78 rfl λS w0=>?_
 refine sr ?_
 refine cq ?_
 refine nt ?_
 refine cO (Z:=Unit) (α:=Unit) (λz2 x1=>[]) (λz2 x1=>[.obj b_a1_0 123 (be a1_0 z_a1_0),.inv z_a1_0 (cu k a1_0),.obj c_a1_0 66 (Pt b_a1_0),.obj c_a1_1 3 (I a1_1)]) (λe=>e=r) h (λe h=>Option.some.inj h) (λK hR h=>?_) (λz2 x1 h=>?_)
 .
  refine sr (mq ?_);refine ol AW ?_;refine fF rfl ?_;refine nt (ah (aE (λz4 y3=>[(0,.rep (.slice (.int .u8)) a0),(1,.eq (.func (.func 48) #[] #[(Pv c_a1_0),(Pv c_a1_1)])),(7,I (a0.length:Int)),(8,I y3)]) (λz4 y3=>[.obj c_a1_0 66 (Pt b_a1_0),.obj b_a1_0 123 (be a1_0 z_a1_0),.obj c_a1_1 3 (I a1_1),.inv z_a1_0 (cu k a1_0)]) (fM k a0 a1_0 a1_1) k () 0 (λ_=>rfl) h (SE.fin [2,0,3,1] ⟨rfl,rfl,rfl,rfl,trivial⟩ rfl) (λn z4 y3 h=>?_)));unfold fM at h;refine sr (jb (bj rfl) ?_);refine nt (ai (ci h (λh=>?_) (λh=>?_)))
  .refine sk (ai (ah (sr (mq ?_))));refine aq (nt (sr ?_));iterate 3 refine mq ?_
   obtain⟨x5,j,h⟩:=aa h;refine jb (ay (t:=(.int .u8)) rfl AW pA j) ?_;refine ja (ak (t:=(.int .u8)) rfl pA rfl) ?_;obtain⟨r6,l,h⟩:=aa h;refine fr 2 ?_;refine fr 1 ?_;refine fr 3 ?_;refine fr 3 ?_;refine aU (Δ:=[_,_,_,_]) (F:=_) (λ_ _ _=>aj rfl _) rfl rfl (s8 (fs:=[]) (cs:=[(Pv c_a1_0),(Pv c_a1_1)]) (ags:=[.eq (.int .u8 x5)]) [.tmp 15] rfl rfl Wu rfl (vh k x5 a1_0 b_a1_0 z_a1_0 c_a1_0 a1_1 c_a1_1 r6 l)) ⟨rfl,rfl,trivial⟩ λ_=>?_;refine nt (cv h (λh=>?_) (λh=>?_))
   .refine sr (mq ?_);refine aq (nt (aD (br (aX (bg ?_)))));obtain rfl:=hR _ h;exact aV () [_] 4 ⟨rfl,trivial⟩ rfl
   .refine ba (aI (tn (ae ?_)));obtain⟨x7,c,h⟩:=aa h;refine jb (bh rfl c) ?_;refine mq (nl ?_);exact jz ((),x7) h [2,0,3,1]
  .refine xa ?_;exact jz ((),()) h [1,3,0,2]
 .
  refine sr (cq (nt (aD ?_)));cases h;exact aV () [_] 4 ⟨rfl,trivial⟩ rfl
def fN(k:Nat)(a0:(List Int))(a1_0:ab)(a1_1:Int):Option Bool:=
 (j7 k a0 a1_0 a1_1).bind λr1=>
 some (decide (0≤r1))
theorem oc(k:Nat)(a0:(List Int))(a1_0:ab)(b_a1_0 z_a1_0 c_a1_0:Nat)(a1_1:Int)(c_a1_1:Nat)(r:Bool)(h:fN k a0 a1_0 a1_1=some r):
 cC (eP Tryz.prog) 50 [.rep (.slice (.int .u8)) a0,.eq (.func (.func 48) #[] #[(Pv c_a1_0),(Pv c_a1_1)])] [.obj b_a1_0 123 (be a1_0 z_a1_0),.inv z_a1_0 (cu k a1_0),.obj c_a1_0 66 (Pt b_a1_0),.obj c_a1_1 3 (I a1_1)] (λ_:Unit=>(bz [.eq (.bool r)],[.obj b_a1_0 123 (be a1_0 z_a1_0),.inv z_a1_0 (cu k a1_0),.obj c_a1_0 66 (Pt b_a1_0),.obj c_a1_1 3 (I a1_1)])):=by
 unfold fN at h
 replace h:=aW h
 refine cC.of 9 Tryz.func50 rfl Tryz.ntmps50 rfl λS w0=>?_
 refine sr ?_
 refine cq ?_
 refine nt ?_
 refine sr ?_
 iterate 2 refine mq ?_
 obtain⟨r1,c,h⟩:=aa h
 have e:=pH k a0 a1_0 b_a1_0 z_a1_0 c_a1_0 a1_1 c_a1_1 r1 c
 refine fr 3 ?_
 refine fr 3 ?_
 refine fr 3 ?_
 refine fr 3 ?_
 refine aU (Δ:=[_,_,_,_]) (F:=_) (λ_ _ _=>aj rfl _) rfl rfl (bp [.tmp 5,.tmp 6] rfl rfl Wa rfl e) ⟨rfl,rfl,trivial⟩ λ_=>?_
 refine jb (gV rfl) ?_
 refine aq ?_
 refine nt ?_
 refine aD ?_
 cases h
 exact aV () [_] 4 ⟨rfl,trivial⟩ rfl
def rW(k:Nat)(a0:ab)(a1:Int):Option ((List Int)×Int):=
 (jR k a0 ([]:(List Int)) [a1] ([]:(List Int))).bind λr3=>
 ib r3.1 (if¬(r3.2.2=0) then(some (([]:(List Int)),r3.2.2)) else(none)) (λq4=>if¬(r3.2.2=0) then(some (([]:(List Int)),r3.2.2)) else((ll k (sR (λ(c:(List Int)) (e:Int)=>
  (oO k a0 a1 e).bind λr=>
  ib r (none) (λs=>(fN k r3.2.1 s a1).bind λn=>
  if¬(n=true) then((bV (bb (length c+length [e]))).bind λ_=>
  some (c++[e],true)) else(some (c,true))))) a0.1 (([]:(List Int)),false)).bind λh=>
 if h.2=true then(none) else((rT k h.1).bind λl=>
 (fV k l).bind λj=>
 some (j,0))))
theorem yf(k:Nat)(a0:ab)(a1:Int)(r:(List Int)×Int)(h:rW k a0 a1=some r):
 cC (eP Tryz.prog) 19 [.rep am a0,I a1] [] (λ_:Unit=>(bz [.rep Tl r.1,I r.2],[])):=by
 unfold rW at h
 replace h:=aW h
 refine xA 44 Tryz.func19 rfl Tryz.ntmps19 rfl λS w0=>?_
 refine sr ?_
 refine bx λb1=>?_
 refine bx λb2=>?_
 refine cq ?_
 refine cq ?_
 refine nt ?_
 refine sr ?_
 refine fr 1 ?_
 refine lo cY ?_
 refine fr 1 ?_
 refine lo bJ ?_
 refine ja (aR (t:=Ti) [(.tmp 15,_)] [a1] rfl rfl cH (.cons rfl .int .nil) rfl rfl) ?_
 obtain⟨r3,Xy,h⟩:=aa h
 have y:=lV k a0 ([]:(List Int)) [a1] ([]:(List Int)) r3 Xy
 rcases hr:r3.1 with _ |q4
 .
  rw [hr] at h y;replace h:=xb h;refine aU (Δ:=[]) (F:=_) (λ_ _ _=>aj rfl _) rfl rfl (bX (N:=[(.tmp 14,.rep am a0),(.const (.slice none 0 0),.eq (.slice none 0 0)),(.tmp 16,.rep Tl [a1]),(.const (.slice none 0 0),.eq (.slice none 0 0))]) (bp [.tmp 14,.const (.slice none 0 0),.tmp 16,.const (.slice none 0 0)] rfl rfl CQ rfl y) λ_ _ _ hn=>⟨hn.1,(aM (t:=Tl) (x:=([]:(List Int))) .nil rfl rfl hn.2.1),hn.2.2.1,(aM (t:=Tl) (x:=([]:(List Int))) .nil rfl rfl hn.2.2.2.1),trivial⟩) ⟨rfl,rfl,rfl,rfl,trivial⟩ λ_=>?_;refine mq ?_;refine xr ?_;refine xr ?_;refine xr ?_;refine bf rfl rfl rfl (bA rfl LU OL) trivial λb5=>?_;refine aq ?_;refine aS rfl rfl (aN rfl zD rfl rfl rfl) ⟨rfl,rfl,trivial⟩ ?_;refine aq (nt (ai (sr ?_)));refine mq ?_;refine jb (dZ rfl) ?_;refine nt (cn h (λh=>?_) (λh=>?_))
  .refine sr (mq ?_);refine cq ?_;refine aq (nt (rx ?_));refine bv (dA (t:=Tl) (x:=([]:(List Int))) 4 rfl .nil rfl rfl) ?_;refine Do ?_;cases h;exact rb
  .cases h
 .
  rw [hr] at h y;replace h:=wZ h;refine aU (Δ:=[]) (F:=_) (λ_ _ _=>aj rfl _) rfl rfl (bX (N:=[(.tmp 14,.rep am a0),(.const (.slice none 0 0),.eq (.slice none 0 0)),(.tmp 16,.rep Tl [a1]),(.const (.slice none 0 0),.eq (.slice none 0 0))]) (bp [.tmp 14,.const (.slice none 0 0),.tmp 16,.const (.slice none 0 0)] rfl rfl CQ rfl y) λ_ _ _ hn=>⟨hn.1,(aM (t:=Tl) (x:=([]:(List Int))) .nil rfl rfl hn.2.1),hn.2.2.1,(aM (t:=Tl) (x:=([]:(List Int))) .nil rfl rfl hn.2.2.2.1),trivial⟩) ⟨rfl,rfl,rfl,rfl,trivial⟩ λz6=>?_;refine mq ?_;refine xr ?_;refine xr ?_;refine xr ?_;refine bf rfl rfl rfl (bA rfl LU OL) trivial λb7=>?_;refine aq ?_;refine aS rfl rfl (aN rfl zD rfl rfl rfl) ⟨rfl,rfl,trivial⟩ ?_;refine aq (nt (ai (sr ?_)));refine mq ?_;refine jb (dZ rfl) ?_;refine nt (cn h (λh=>?_) (λh=>?_))
  .refine sr (mq ?_);refine cq ?_;refine aq (nt (rx ?_));refine bv (dA (t:=Tl) (x:=([]:(List Int))) 4 rfl .nil rfl rfl) ?_;refine Do ?_;cases h;exact rb
  .refine sk (sr (bf rfl rfl rfl (bA rfl LU OL) trivial λb8=>?_));refine nt (ai (sr (fl fx ?_)));refine fr 5 ?_;refine lo bJ ?_;refine bf rfl rfl rfl (au [.tmp 25] rfl rfl Uu rfl (tg a0.1)) ⟨rfl,trivial⟩ λb9=>?_;refine nt (ah (gi (SE.nil 70 (.int .u8)) ?_));refine dU 7 rfl ?_;refine dU 7 rfl ?_;refine dU 7 rfl ?_;refine dU 7 rfl ?_;refine dU 4 rfl ?_;refine dU 7 rfl ?_;refine dU 7 rfl ?_;refine dU 7 rfl ?_;obtain⟨u,zz,h⟩:=aa h;refine tJ (Δ:=[.obj b9 3 (I a0.1),.obj b1 25 (.rep am a0),.obj b8 67 (.eq (.slice none 0 0)),.sl (.slice none 0 0) 70 (.int .u8) ([]:(List Int)),.obj b7 67 (.rep (.slice (.int .u8)) r3.2.1),.obj z6.1 123 (be q4 z6.2),.inv z6.2 (cu k q4),.obj b2 3 (I a1)]) (F:=[]) (X:=Value) (J:=λ_=>SH u.2) (E:=λc=>[.obj b9 3 (I a0.1),.obj b1 25 (.rep am a0),.obj b8 67 (.eq c),.sl c 70 (.int .u8) u.1,.obj b7 67 (.rep (.slice (.int .u8)) r3.2.1),.obj z6.1 123 (be q4 z6.2),.inv z6.2 (cu k q4),.obj b2 3 (I a1)]) (r0:=λ_=>.tup .any) rfl rfl Um (λrec hp ha hb hs hpe hN hv l=>?_) (λdl c=>vR (λhj=>?_) (λhj=>?_))
   .rcases rec with⟨st0,pe0,fn0,tm0,ps0,as0,bd0,df0⟩;dsimp only at hp ha hb hs hpe hN hv;subst hp hs hpe;have vN:Di tm0 [(2,Pt b1),(3,Pt b2),(7,Pt b7),(9,Pt b8)]:=⟨congrArg A.eq (hv 2 _ rfl).symm,congrArg A.eq (hv 3 _ rfl).symm,congrArg A.eq (hv 7 _ rfl).symm,congrArg A.eq (hv 9 _ rfl).symm,trivial⟩;refine cC.pick (M:=(eP Tryz.prog)) [1,0,2,3,4,5,6,7,8] [1,0,2,3,4,5,6,7,8] (pY (λ(c:Value) (q:(List Int)×Bool)=>[.raw l (.loop (lI ⟨.ready,none,fn0,tm0, #[27],as0,bd0,df0⟩ (SH q.2))),.obj b1 25 (.rep am a0),.obj b8 67 (.eq c),.sl c 70 (.int .u8) q.1,.obj b7 67 (.rep (.slice (.int .u8)) r3.2.1),.obj z6.1 123 (be q4 z6.2),.inv z6.2 (cu k q4),.obj b2 3 (I a1)]) l (sR (λ(n:(List Int)) (j:Int)=>
    (oO k a0 a1 j).bind λs=>
    ib s (none) (λO=>(fN k r3.2.1 O a1).bind λD=>
    if¬(D=true) then((bV (bb (length n+length [j]))).bind λ_=>
    some (n++[j],true)) else(some (n,true))))) k a0.1 b9 (λc q p r' h=>?_) (.slice none 0 0) (([]:(List Int)),false) u zz) rfl (λ_=>rfl) (λ_=>rfl)
    obtain⟨rq,hq,h2,rfl⟩:=vS h;obtain⟨n,b5⟩:=q;obtain rfl:b5=false:=hq;replace h:=aW h2;obtain⟨j,hpv⟩:∃x,x=p:=⟨_,rfl⟩;subst hpv;refine YT.pick (R':=(λc:Value=>(.eq (.bool rq.2),[.raw l (.loop (lI ⟨.ready,none,fn0,tm0, #[27],as0,bd0,df0⟩ (SH (!rq.2)))),.obj b1 25 (.rep am a0),.obj b8 67 (.eq c),.sl c 70 (.int .u8) rq.1,.obj b7 67 (.rep (.slice (.int .u8)) r3.2.1),.obj z6.1 123 (be q4 z6.2),.inv z6.2 (cu k q4),.obj b2 3 (I a1)]))) [0,1,2,3,4,5,6,7] [0,1,2,3,4,5,6,7] (K6 ha hb (N:=44) (Γ:=[(2,Pt b1),(3,Pt b2),(7,Pt b7),(9,Pt b8)]) rfl hN (by decide) vN (λS w=>?_)) rfl (λ_=>rfl) (λ_=>rfl);refine ae (aq (nl ?_));refine Dq rfl rfl ?_;refine ah (sr (fr 1 ?_));refine lo cY ?_;refine fr 7 ?_;refine lo bJ ?_;refine mq ?_;obtain⟨s,qt,h⟩:=aa h;have e:=yd k a0 a1 j s qt;rcases hr:s with _ |O
    .rw [hr] at h e;replace h:=xb h;refine aU (Δ:=[]) (F:=_) (λ_ _ _=>aj rfl _) rfl rfl (au [.tmp 28,.tmp 29,.tmp 30] rfl rfl Ut rfl e) ⟨rfl,rfl,rfl,trivial⟩ λ_=>?_;cases h
    .rw [hr] at h e;replace h:=wZ h;refine aU (Δ:=[]) (F:=_) (λ_ _ _=>aj rfl _) rfl rfl (au [.tmp 28,.tmp 29,.tmp 30] rfl rfl Ut rfl e) ⟨rfl,rfl,rfl,trivial⟩ λQ=>?_;refine bf rfl rfl rfl (bA rfl Vo WQ) trivial λXv=>?_;refine aS rfl rfl (aN rfl MC rfl rfl rfl) ⟨rfl,rfl,trivial⟩ ?_;refine nt (sr (jb (t6 [] [.tmp 11,.tmp 3] [] [(Pv Xv),(Pv b2)] rfl rfl rfl) ?_));refine aq (nt (sr ?_));refine fr 8 ?_;refine lo zD ?_;refine mq ?_;obtain⟨D,mw,h⟩:=aa h;refine fr 4 ?_;refine fr 2 ?_;refine fr 4 ?_;refine fr 4 ?_;refine aU (Δ:=[_,_,_,_]) (F:=_) (λ_ _ _=>aj rfl _) rfl rfl (bp [.tmp 33,.tmp 34] rfl rfl Ws rfl (oc k r3.2.1 O Q.1 Q.2 Xv a1 b2 D mw)) ⟨rfl,rfl,trivial⟩ λ_=>?_;refine ja (eS rfl) ?_;refine nt (cw h (λh=>?_) (λh=>?_))
     .refine ae (fr 7 ?_);refine lo zD ?_;refine mq ?_;refine ja (aR (t:=(.int .u8)) [(.tmp 38,_)] [j] rfl rfl MO (.cons rfl .int .nil) rfl rfl) ?_;obtain⟨Xz,Y,h⟩:=aa h;refine fr 8 ?_;refine cz rfl rfl rfl (bi rfl rfl MO (ap Y)) ⟨rfl,rfl,trivial⟩ λXw=>?_;refine m9 λo22=>?_;refine fr 1 ?_;refine aS rfl rfl (aN rfl zD o22 rfl rfl) ⟨rfl,rfl,trivial⟩ ?_;refine aG (aI (bH 5 rfl ?_));refine bH 10 rfl ?_;refine bH 10 rfl ?_;refine bH 8 rfl ?_;refine bH 5 rfl ?_;refine bH 5 rfl ?_;refine bH 9 rfl ?_;refine bH 10 rfl ?_;cases h;exact qY Xw 7 rfl
     .refine ba (aI (bH 3 rfl ?_));refine bH 10 rfl ?_;refine bH 10 rfl ?_;refine bH 6 rfl ?_;refine bH 10 rfl ?_;refine bH 10 rfl ?_;refine bH 9 rfl ?_;refine bH 10 rfl ?_;cases h;exact qY c 7 rfl
   .replace h:=bZ (Ih hj) h;refine aI (tn (sr (fr 3 ?_)));refine lo zD ?_;obtain⟨U,mc,h⟩:=aa h;refine fr 4 ?_;refine kb (kO (N:=[(.tmp 41,.eq c),(.func 52,.eq (.func (.func 52) #[] #[]))]) (au [.tmp 41,.func 52] rfl rfl Wq rfl (ye k u.1 U mc)) (λ_ _ _ hv hn=>⟨(lend hn.1 hv),hn.2.1,trivial⟩) (λ_=>⟨rfl,ou⟩)) ?_;obtain⟨Xx,Z,h⟩:=aa h;refine ja (au [.tmp 42] rfl rfl Oh rfl (jC k U Xx Z)) ?_;refine aq ?_;refine cq (nt (aD ?_));refine bH 2 rfl ?_;refine GK ?_;cases h;exact rb
   .replace h:=dO (Ig hj) h;cases h
def kW(k:Nat)(a0:ab)(r5:(List (List Int)))(x9:Int):Nat->((List (List Int))×Int)->Option (List (List Int))
 |0,_=>none
 |n+1,c=>
  if c.2 < x9 then((aH r5 c.2).bind λj=>
  (bV (0≤a0.1/\a0.1≤5)).bind λ_=>
  (nP k (List.take (Int.toNat a0.1) j)).bind λe=>
  (bV (bb (length c.1+length [e]))).bind λ_=>
  (ck (c.2+1)).bind λh=>
  kW k a0 r5 x9 n (c.1++[e],h)) else(some c.1)
def rX(k:Nat)(a0:ab)(a1:(List Int)):Option ((List (List Int))×Int):=
 (li k a0 a1 ([]:(List Int)) ([]:(List Int)) ([]:(List Int))).bind λr2=>
 ib r2.1 (if¬(r2.2.2=0) then(some (([]:(List (List Int))),r2.2.2)) else(none)) (λq3=>if¬(r2.2.2=0) then(some (([]:(List (List Int))),r2.2.2)) else((mV k q3 r2.2.1).bind λr5=>
 (((ck ((a0.2.2.2.2.1.length:Int)+1)).bind λx9=>
 kW k a0 r5 x9 k (([]:(List (List Int))),0)):Option ((List (List Int)))).bind λx7=>
 some (x7,0)))
theorem yg(k:Nat)(a0:ab)(a1:(List Int))(r:(List (List Int))×Int)(h:rX k a0 a1=some r):
 cC (eP Tryz.prog) 21 [.rep am a0,.rep Tl a1] [] (λ_:Unit=>(bz [.rep (.slice Tl) r.1,I r.2],[])):=by
 unfold rX at h
 replace h:=aW h
 refine cC.of 43 Tryz.func21 rfl Tryz.ntmps21 rfl λS w0=>?_
 refine sr ?_
 refine bx λb1=>?_
 refine cq ?_
 refine cq ?_
 refine nt ?_
 refine sr ?_
 refine lo cY ?_
 refine mq ?_
 obtain⟨r2,X,h⟩:=aa h
 have j:=nB k a0 a1 ([]:(List Int)) ([]:(List Int)) ([]:(List Int)) r2 X
 rcases hr:r2.1 with _ |q3
 .
  rw [hr] at h j;replace h:=xb h;refine aU (Δ:=[]) (F:=_) (λ_ _ _=>aj rfl _) rfl rfl (bX (N:=[(.tmp 13,.rep am a0),(.tmp 14,.rep Tl a1),(.const (.slice none 0 0),.eq (.slice none 0 0)),(.const (.slice none 0 0),.eq (.slice none 0 0)),(.const (.slice none 0 0),.eq (.slice none 0 0))]) (bp [.tmp 13,.tmp 14,.const (.slice none 0 0),.const (.slice none 0 0),.const (.slice none 0 0)] rfl rfl CP rfl j) λ_ _ _ hn=>⟨hn.1,hn.2.1,(aM (t:=Tl) (x:=([]:(List Int))) .nil rfl rfl hn.2.2.1),(aM (t:=Tl) (x:=([]:(List Int))) .nil rfl rfl hn.2.2.2.1),(aM (t:=Tl) (x:=([]:(List Int))) .nil rfl rfl hn.2.2.2.2.1),trivial⟩) ⟨rfl,rfl,rfl,rfl,rfl,trivial⟩ λ_=>?_;refine mq ?_;refine xr ?_;refine xr ?_;refine xr ?_;refine aq ?_;refine aq ?_;refine aq (nt (ai (sr ?_)));refine mq ?_;refine jb (dZ rfl) ?_;refine nt (cn h (λh=>?_) (λh=>?_))
  .refine sr (mq ?_);refine cq ?_;refine aq (nt (rx ?_));refine bv (dA (t:=(.slice Tl)) (x:=([]:(List (List Int)))) 4 rfl .nil rfl rfl) ?_;cases h;exact rb
  .cases h
 .
  rw [hr] at h j;replace h:=wZ h;refine aU (Δ:=[]) (F:=_) (λ_ _ _=>aj rfl _) rfl rfl (bX (N:=[(.tmp 13,.rep am a0),(.tmp 14,.rep Tl a1),(.const (.slice none 0 0),.eq (.slice none 0 0)),(.const (.slice none 0 0),.eq (.slice none 0 0)),(.const (.slice none 0 0),.eq (.slice none 0 0))]) (bp [.tmp 13,.tmp 14,.const (.slice none 0 0),.const (.slice none 0 0),.const (.slice none 0 0)] rfl rfl CP rfl j) λ_ _ _ hn=>⟨hn.1,hn.2.1,(aM (t:=Tl) (x:=([]:(List Int))) .nil rfl rfl hn.2.2.1),(aM (t:=Tl) (x:=([]:(List Int))) .nil rfl rfl hn.2.2.2.1),(aM (t:=Tl) (x:=([]:(List Int))) .nil rfl rfl hn.2.2.2.2.1),trivial⟩) ⟨rfl,rfl,rfl,rfl,rfl,trivial⟩ λz4=>?_;refine mq ?_;refine xr ?_;refine xr ?_;refine xr ?_;refine aq ?_;refine aq ?_;refine aq (nt (ai (sr ?_)));refine mq ?_;refine jb (dZ rfl) ?_;refine nt (cn h (λh=>?_) (λh=>?_))
  .refine sr (mq ?_);refine cq ?_;refine aq (nt (rx ?_));refine bv (dA (t:=(.slice Tl)) (x:=([]:(List (List Int)))) 4 rfl .nil rfl rfl) ?_;cases h;exact rb
  .refine sk (sr (cq (nt (sr ?_))));iterate 2 refine mq ?_
   obtain⟨r5,U,h⟩:=aa h;refine fr 1 ?_;refine fr 1 ?_;refine aU (Δ:=[_,_]) (F:=_) (λ_ _ _=>aj rfl _) rfl rfl (bp [.tmp 22,.tmp 23] rfl rfl HC rfl (qQ k q3 z4.1 z4.2 r2.2.1 r5 U)) ⟨rfl,rfl,trivial⟩ λ_=>?_;refine bf rfl rfl rfl (bA rfl AY Dc) trivial λb6=>?_;refine aS rfl rfl (aN rfl Bl rfl rfl rfl) ⟨rfl,rfl,trivial⟩ ?_;refine eQ (kN (t:=(.arr 7 Tr)) (x:=r5) [10] .rep ⟨rfl,trivial⟩) ?_;refine nt (aC (Z:=Value) (α:=(List (List Int))) (λz8 x7=>[(9,.eq z8)]) (λz8 x7=>[.sl z8 28 Tl x7,.inv z4.2 (cu k q3)]) h (λK h=>?_) (λz8 x7 h=>?_))
   .refine sr (fl bW ?_);refine fr 2 ?_;refine lo fq ?_;refine ol pq ?_;obtain⟨x9,Q,h⟩:=aa h;refine jb (bh rfl Q) ?_;refine fF rfl ?_;refine nt (ah (gi (SE.nil 28 Tl) ?_));refine aE (λe c=>[(2,Pt b1),(9,.eq e),(10,.at (.arr 7 Tr) r5),(28,I x9),(29,I c.2)]) (λe c=>[.obj b1 25 (.rep am a0),.sl e 28 Tl c.1,.inv z4.2 (cu k q3)]) (kW k a0 r5 x9) k (.slice none 0 0) (([]:(List (List Int))),0) (λ_=>rfl) h (SE.fin [1,0,3] ⟨rfl,rfl,rfl,rfl,rfl,trivial⟩ rfl) (λn e c h=>?_);unfold kW at h;refine sr (jb (bj rfl) ?_);refine nt (ai (ci h (λh=>?_) (λh=>?_)))
    .refine sk (ai (ah (sr (mq ?_))));refine aq (nt ?_);refine bu ?_;refine dm ?_;refine dm ?_;obtain⟨M,y,h⟩:=aa h;refine db (cM (t:=Tr) rfl yl gh y) ?_;refine da (av rfl fx) ?_;refine ea 0 (ao rfl bJ jQ rfl) ?_;obtain⟨mc,l,h⟩:=aa h;refine db (xW (t:=Ti) rfl sG bJ (ap l).1 (ap l).2) ?_;obtain⟨s,E,h⟩:=aa h;refine da (tG (au [.tmp 37] rfl rfl Wp rfl (tQ k (List.take (Int.toNat a0.1) M) s E))) ?_;refine da (aR (t:=Tl) [(.tmp 38,_)] [s] rfl rfl lS (.cons rfl .rep .nil) rfl rfl) ?_;refine df bY ?_;obtain⟨Y,D,h⟩:=aa h;refine fr 1 ?_;refine cz rfl rfl rfl (bi rfl rfl lS (ap D)) ⟨rfl,rfl,trivial⟩ λO=>?_;refine aq (aG (aI (tn (ae ?_))));obtain⟨J,u,h⟩:=aa h;refine jb (bh rfl u) ?_;refine mq (nl ?_);exact jz (O,(c.1++[s],J)) h [1,0,2]
    .refine xa ?_;exact jz (e,c.1) h [1,2]
   .refine sr (mq ?_);refine aq ?_;refine cq (nt (aD ?_));refine bv (fy [4,9,42] ⟨rfl,rfl,rfl,trivial⟩) ?_;cases h;exact rb
def kX(k:Nat)(r7:(List Int)):Nat->((List (List Int))×Int)->Option (List (List Int))
 |0,_=>none
 |n+1,y8=>
  if y8.2 < (r7.length:Int) then((aH r7 y8.2).bind λh=>
  (fV k h).bind λc=>
  (bV (bb (length y8.1+length [c]))).bind λ_=>
  (ck (y8.2+1)).bind λe=>
  kX k r7 n (y8.1++[c],e)) else(some y8.1)
def rY(k:Nat)(a0:ab):Option ((List (List Int))×Int):=
 (li k a0 ([]:(List Int)) ([]:(List Int)) ([]:(List Int)) ([]:(List Int))).bind λr2=>
 ib r2.1 (if¬(r2.2.2=0) then(some (([]:(List (List Int))),r2.2.2)) else(none)) (λq3=>if¬(r2.2.2=0) then(some (([]:(List (List Int))),r2.2.2)) else((((fo k q3 0).bind λr7=>
 kX k r7 k (([]:(List (List Int))),0)):Option ((List (List Int)))).bind λx5=>
 some (x5,0)))
theorem yh(k:Nat)(a0:ab)(r:(List (List Int))×Int)(h:rY k a0=some r):
 cC (eP Tryz.prog) 23 [.rep am a0] [] (λ_:Unit=>(bz [.rep (.slice Tl) r.1,I r.2],[])):=by
 unfold rY at h
 replace h:=aW h
 refine cC.of 33 Tryz.func23 rfl Tryz.ntmps23 rfl λS w0=>?_
 refine sr ?_
 refine bx λb1=>?_
 refine cq ?_
 refine cq ?_
 refine nt ?_
 refine sr ?_
 refine lo cY ?_
 obtain⟨r2,M,h⟩:=aa h
 have c:=nB k a0 ([]:(List Int)) ([]:(List Int)) ([]:(List Int)) ([]:(List Int)) r2 M
 rcases hr:r2.1 with _ |q3
 .
  rw [hr] at h c;replace h:=xb h;refine aU (Δ:=[]) (F:=_) (λ_ _ _=>aj rfl _) rfl rfl (bX (N:=[(.tmp 11,.rep am a0),(.const (.slice none 0 0),.eq (.slice none 0 0)),(.const (.slice none 0 0),.eq (.slice none 0 0)),(.const (.slice none 0 0),.eq (.slice none 0 0)),(.const (.slice none 0 0),.eq (.slice none 0 0))]) (bp [.tmp 11,.const (.slice none 0 0),.const (.slice none 0 0),.const (.slice none 0 0),.const (.slice none 0 0)] rfl rfl CP rfl c) λ_ _ _ hn=>⟨hn.1,(aM (t:=Tl) (x:=([]:(List Int))) .nil rfl rfl hn.2.1),(aM (t:=Tl) (x:=([]:(List Int))) .nil rfl rfl hn.2.2.1),(aM (t:=Tl) (x:=([]:(List Int))) .nil rfl rfl hn.2.2.2.1),(aM (t:=Tl) (x:=([]:(List Int))) .nil rfl rfl hn.2.2.2.2.1),trivial⟩) ⟨rfl,rfl,rfl,rfl,rfl,trivial⟩ λ_=>?_;refine mq ?_;refine xr ?_;refine xr ?_;refine xr ?_;refine aq ?_;refine aq ?_;refine aq (nt (ai (sr ?_)));refine mq ?_;refine jb (dZ rfl) ?_;refine nt (cn h (λh=>?_) (λh=>?_))
  .refine sr (mq ?_);refine cq ?_;refine aq (nt (rx ?_));refine bv (dA (t:=(.slice Tl)) (x:=([]:(List (List Int)))) 2 rfl .nil rfl rfl) ?_;cases h;exact rb
  .cases h
 .
  rw [hr] at h c;replace h:=wZ h;refine aU (Δ:=[]) (F:=_) (λ_ _ _=>aj rfl _) rfl rfl (bX (N:=[(.tmp 11,.rep am a0),(.const (.slice none 0 0),.eq (.slice none 0 0)),(.const (.slice none 0 0),.eq (.slice none 0 0)),(.const (.slice none 0 0),.eq (.slice none 0 0)),(.const (.slice none 0 0),.eq (.slice none 0 0))]) (bp [.tmp 11,.const (.slice none 0 0),.const (.slice none 0 0),.const (.slice none 0 0),.const (.slice none 0 0)] rfl rfl CP rfl c) λ_ _ _ hn=>⟨hn.1,(aM (t:=Tl) (x:=([]:(List Int))) .nil rfl rfl hn.2.1),(aM (t:=Tl) (x:=([]:(List Int))) .nil rfl rfl hn.2.2.1),(aM (t:=Tl) (x:=([]:(List Int))) .nil rfl rfl hn.2.2.2.1),(aM (t:=Tl) (x:=([]:(List Int))) .nil rfl rfl hn.2.2.2.2.1),trivial⟩) ⟨rfl,rfl,rfl,rfl,rfl,trivial⟩ λz4=>?_;refine mq ?_;refine xr ?_;refine xr ?_;refine xr ?_;refine aq ?_;refine aq ?_;refine aq (nt (ai (sr ?_)));refine mq ?_;refine jb (dZ rfl) ?_;refine nt (cn h (λh=>?_) (λh=>?_))
  .refine sr (mq ?_);refine cq ?_;refine aq (nt (rx ?_));refine bv (dA (t:=(.slice Tl)) (x:=([]:(List (List Int)))) 2 rfl .nil rfl rfl) ?_;cases h;exact rb
  .refine sk (sr (cq (nt ?_)));refine aC (Z:=Value) (α:=(List (List Int))) (λz6 x5=>[(7,.eq z6)]) (λz6 x5=>[.sl z6 28 Tl x5,.inv z4.2 (cu k q3)]) h (λK h=>?_) (λz6 x5 h=>?_)
   .refine sr (mq ?_);obtain⟨r7,J,h⟩:=aa h;refine fr 1 ?_;refine fr 1 ?_;refine aU (Δ:=[_,_]) (F:=_) (λ_ _ _=>aj rfl _) rfl rfl (bp [.tmp 19,.const (.int .u8 (0))] rfl rfl Ur rfl (lP k q3 z4.1 z4.2 0 r7 J)) ⟨rfl,rfl,trivial⟩ λ_=>?_;refine ol AW ?_;refine fF rfl ?_;refine nt (ah (gi (SE.nil 28 Tl) ?_));refine aE (λz9 y8=>[(7,.eq z9),(20,.rep (.slice (.int .u8)) r7),(21,I (r7.length:Int)),(22,I y8.2)]) (λz9 y8=>[.sl z9 28 Tl y8.1,.inv z4.2 (cu k q3)]) (kX k r7) k (.slice none 0 0) (([]:(List (List Int))),0) (λ_=>rfl) h (SE.fin [0,2] ⟨rfl,rfl,rfl,rfl,trivial⟩ rfl) (λn z9 y8 h=>?_);unfold kX at h;refine sr (jb (bj rfl) ?_);refine nt (ai (ci h (λh=>?_) (λh=>?_)))
    .refine sk (ai (ah (sr ?_)));obtain⟨D,l,h⟩:=aa h;refine jb (ay (t:=(.int .u8)) rfl AW pA l) ?_;refine ja (ak (t:=(.int .u8)) rfl pA rfl) ?_;refine aq (nt (ae ?_));iterate 2 refine mq ?_
     obtain⟨e,u,h⟩:=aa h;refine ja (au [.tmp 27] rfl rfl Oh rfl (jC k D e u)) ?_;refine ja (aR (t:=Tl) [(.tmp 28,_)] [e] rfl rfl lS (.cons rfl .rep .nil) rfl rfl) ?_;obtain⟨O,s,h⟩:=aa h;refine cz rfl rfl rfl (bi rfl rfl lS (ap s)) ⟨rfl,rfl,trivial⟩ λE=>?_;refine aq (aG (aI (tn (ae ?_))));obtain⟨y,j,h⟩:=aa h;refine jb (bh rfl j) ?_;refine mq (nl ?_);exact jz (E,(y8.1++[e],y)) h [0,1]
    .refine xa ?_;exact jz (z9,y8.1) h [0,1]
   .refine sr (mq ?_);refine aq ?_;refine cq (nt (aD ?_));refine bv (fy [2,7,32] ⟨rfl,rfl,rfl,trivial⟩) ?_;cases h;exact rb
def lX(k:Nat)(a1:Int)(r3:(Option ab)×(List Int)×Int)(q4:ab):Nat->((List Int)×Int)->Option (List Int)
 |0,_=>none
 |n+1,y8=>
  if y8.2 < (r3.2.1.length:Int) then((((aH r3.2.1 y8.2).bind λh=>
  (eU k q4 h a1).bind λc=>
  if 0≤c then((bV (bb (length y8.1+length [c]))).bind λ_=>
  some (y8.1++[c])) else(some y8.1)):Option ((List Int))).bind λj=>
  (ck (y8.2+1)).bind λe=>
  lX k a1 r3 q4 n (j,e)) else(some y8.1)
def ui(k:Nat)(a0:ab)(a1:Int):Option (gG×Int):=
 (jR k a0 [a1] ([]:(List Int)) ([]:(List Int))).bind λr3=>
 ib r3.1 (if¬(r3.2.2=0) then(some ((0,0),r3.2.2)) else(none)) (λq4=>if¬(r3.2.2=0) then(some ((0,0),r3.2.2)) else(((lX k a1 r3 q4 k (([]:(List Int)),0)):Option ((List Int))).bind λx6=>
 if(x6.length:Int)=0 then(some ((0,0),11)) else((np k x6).bind λe=>
 (pG k x6).bind λc=>
 some ((e,c),0))))
theorem zX(k:Nat)(a0:ab)(a1:Int)(r:gG×Int)(h:ui k a0 a1=some r):
 cC (eP Tryz.prog) 24 [.rep am a0,I a1] [] (λ_:Unit=>(bz [.rep cj r.1,I r.2],[])):=by
 unfold ui at h
 replace h:=aW h
 refine cC.of 51 Tryz.func24 rfl Tryz.ntmps24 rfl λS w0=>?_
 refine sr ?_
 refine bx λb1=>?_
 refine bf rfl rfl rfl (bA rfl DJ UO) trivial λb2=>?_
 refine cq ?_
 refine nt ?_
 refine sr ?_
 refine fr 1 ?_
 refine lo cY ?_
 refine mq ?_
 refine ja (aR (t:=Ti) [(.tmp 15,_)] [a1] rfl rfl cH (.cons rfl .int .nil) rfl rfl) ?_
 obtain⟨r3,Y,h⟩:=aa h
 have s:=lV k a0 [a1] ([]:(List Int)) ([]:(List Int)) r3 Y
 rcases hr:r3.1 with _ |q4
 .
  rw [hr] at h s;replace h:=xb h;refine aU (Δ:=[]) (F:=_) (λ_ _ _=>aj rfl _) rfl rfl (bX (N:=[(.tmp 14,.rep am a0),(.tmp 16,.rep Tl [a1]),(.const (.slice none 0 0),.eq (.slice none 0 0)),(.const (.slice none 0 0),.eq (.slice none 0 0))]) (bp [.tmp 14,.tmp 16,.const (.slice none 0 0),.const (.slice none 0 0)] rfl rfl CQ rfl s) λ_ _ _ hn=>⟨hn.1,hn.2.1,(aM (t:=Tl) (x:=([]:(List Int))) .nil rfl rfl hn.2.2.1),(aM (t:=Tl) (x:=([]:(List Int))) .nil rfl rfl hn.2.2.2.1),trivial⟩) ⟨rfl,rfl,rfl,rfl,trivial⟩ λ_=>?_;refine mq ?_;refine xr ?_;refine xr ?_;refine xr ?_;refine aq ?_;refine aq ?_;refine aq (nt (ai (sr ?_)));refine mq ?_;refine jb (dZ rfl) ?_;refine nt (cn h (λh=>?_) (λh=>?_))
  .refine sr (cF rfl (eX [] rfl Jo DJ Db (kZ trivial) rfl) trivial ?_);refine mq ?_;refine fr 1 ?_;refine aS rfl rfl (aN rfl xQ trivial rfl rfl) ⟨rfl,rfl,trivial⟩ ?_;refine aq (nt (rx ?_));refine bv (ie (a:=.agg (.pair (I 0) (I 0))) (a':=.rep cj (0,0)) (kA (.agg (.pair .int .int)))) ?_;cases h;exact aV () [.rep cj (0,0),_] 0 ⟨⟨_,_,_,_,_,rfl,(.head _),xQ,(oM),rfl⟩,rfl,trivial⟩ rfl
  .cases h
 .
  rw [hr] at h s;replace h:=wZ h;refine aU (Δ:=[]) (F:=_) (λ_ _ _=>aj rfl _) rfl rfl (bX (N:=[(.tmp 14,.rep am a0),(.tmp 16,.rep Tl [a1]),(.const (.slice none 0 0),.eq (.slice none 0 0)),(.const (.slice none 0 0),.eq (.slice none 0 0))]) (bp [.tmp 14,.tmp 16,.const (.slice none 0 0),.const (.slice none 0 0)] rfl rfl CQ rfl s) λ_ _ _ hn=>⟨hn.1,hn.2.1,(aM (t:=Tl) (x:=([]:(List Int))) .nil rfl rfl hn.2.2.1),(aM (t:=Tl) (x:=([]:(List Int))) .nil rfl rfl hn.2.2.2.1),trivial⟩) ⟨rfl,rfl,rfl,rfl,trivial⟩ λz5=>?_;refine mq ?_;refine xr ?_;refine xr ?_;refine xr ?_;refine aq ?_;refine aq ?_;refine aq (nt (ai (sr ?_)));refine mq ?_;refine jb (dZ rfl) ?_;refine nt (cn h (λh=>?_) (λh=>?_))
  .refine sr (cF rfl (eX [] rfl Jo DJ Db (kZ trivial) rfl) trivial ?_);refine mq ?_;refine fr 3 ?_;refine aS rfl rfl (aN rfl xQ trivial rfl rfl) ⟨rfl,rfl,trivial⟩ ?_;refine aq (nt (rx ?_));refine bv (ie (a:=.agg (.pair (I 0) (I 0))) (a':=.rep cj (0,0)) (kA (.agg (.pair .int .int)))) ?_;cases h;exact aV () [.rep cj (0,0),_] 0 ⟨⟨_,_,_,_,_,rfl,(.head _),xQ,(oM),rfl⟩,rfl,trivial⟩ rfl
  .refine sk (sr (cq (nt ?_)));refine aC (Z:=Value) (α:=(List Int)) (λz7 x6=>[(4,Pt b2),(9,.eq z7)]) (λz7 x6=>[.obj b2 53 (.agg (.pair (I 0) (I 0))),.sl z7 3 Ti x6,.inv z5.2 (cu k q4)]) h (λK h=>?_) (λz7 x6 h=>?_)
   .refine sr (mq ?_);refine ol AW ?_;refine fF rfl ?_;refine nt (ah (gi (SE.nil 3 Ti) ?_));refine aE (λz9 y8=>[(1,I a1),(4,Pt b2),(6,.eq (.pointer (some ⟨z5.1,0,none⟩))),(9,.eq z9),(25,.rep (.slice (.int .u8)) r3.2.1),(26,I (r3.2.1.length:Int)),(27,I y8.2)]) (λz9 y8=>[.obj b2 53 (.agg (.pair (I 0) (I 0))),.obj z5.1 123 (be q4 z5.2),.sl z9 3 Ti y8.1,.inv z5.2 (cu k q4)]) (lX k a1 r3 q4) k (.slice none 0 0) (([]:(List Int)),0) (λ_=>rfl) h (SE.fin [4,1,0,2] ⟨rfl,rfl,rfl,rfl,rfl,rfl,rfl,trivial⟩ rfl) (λn z9 y8 h=>?_);unfold lX at h;refine sr (jb (bj rfl) ?_);refine nt (ai (ci h (λh=>?_) (λh=>?_)))
    .refine sk (aC (Z:=Value) (α:=(List Int)) (λc e=>[(1,I a1),(4,Pt b2),(6,.eq (.pointer (some ⟨z5.1,0,none⟩))),(9,.eq c),(25,.rep (.slice (.int .u8)) r3.2.1),(26,I (r3.2.1.length:Int)),(27,I y8.2)]) (λc e=>[.obj b2 53 (.agg (.pair (I 0) (I 0))),.obj z5.1 123 (be q4 z5.2),.sl c 3 Ti e,.inv z5.2 (cu k q4)]) h (λK h=>?_) (λc e h=>?_))
     .refine ah (sr ?_);obtain⟨U,D,h⟩:=aa h;refine jb (ay (t:=(.int .u8)) rfl AW pA D) ?_;refine ja (ak (t:=(.int .u8)) rfl pA rfl) ?_;refine aq (nt (sr ?_));iterate 3 refine mq ?_
      obtain⟨u,O,h⟩:=aa h;refine fr 3 ?_;refine fr 2 ?_;refine aU (Δ:=[_,_]) (F:=_) (λ_ _ _=>aj rfl _) rfl rfl (bp [.tmp 31,.tmp 32,.tmp 33] rfl rfl Rn rfl (jK k q4 z5.1 z5.2 U a1 u O)) ⟨rfl,rfl,rfl,trivial⟩ λ_=>?_;refine aq (nt (sr ?_));refine mq ?_;refine jb (gV rfl) ?_;refine nt (ci h (λh=>?_) (λh=>?_))
      .refine ae ?_;iterate 2 refine mq ?_
       refine ja (aR (t:=Ti) [(.tmp 38,_)] [u] rfl rfl cH (.cons rfl .int .nil) rfl rfl) ?_;obtain⟨mc,E,h⟩:=aa h;refine fr 3 ?_;refine cz rfl rfl rfl (bi rfl rfl cH (ap E)) ⟨rfl,rfl,trivial⟩ λX=>?_;refine aq (aG (bn ?_));exact jz (X,y8.1++[u]) h [3,1,0,2]
      .refine ba (bn ?_);exact jz (z9,y8.1) h [2,0,3,1]
     .refine ae ?_;obtain⟨Q,y,h⟩:=aa h;refine jb (bh rfl y) ?_;refine mq (nl ?_);exact jz (c,(e,Q)) h [0,1,2,3]
    .refine xa ?_;exact jz (z9,y8.1) h [0,2,3]
   .refine ai (sr (mq ?_));refine fr 1 ?_;refine ka (oh rfl rfl fD) ?_;refine jb (jO rfl) ?_;refine nt (ci h (λh=>?_) (λh=>?_))
    .refine sr (cF rfl (eX [] rfl Jo DJ Db (kZ trivial) rfl) trivial ?_);refine fr 1 ?_;refine aS rfl rfl (aN rfl xQ trivial rfl rfl) ⟨rfl,rfl,trivial⟩ ?_;refine cq (nt (rx ?_));refine bv (ie (a:=.agg (.pair (I 0) (I 0))) (a':=.rep cj (0,0)) (kA (.agg (.pair .int .int)))) ?_;cases h;exact aV () [.rep cj (0,0),_] 0 ⟨⟨_,_,_,_,_,rfl,(.head _),xQ,(oM),rfl⟩,rfl,trivial⟩ rfl
    .refine sk (sr (mq ?_));obtain⟨l,M,h⟩:=aa h;refine ka (kO (N:=[(.tmp 46,.eq z7)]) (au [.tmp 46] rfl rfl Up rfl (pE k x6 l M)) (λ_ _ _ hv hn=>⟨(lend hn.1 hv),trivial⟩) (λ_=>⟨rfl,ou⟩)) ?_;refine mq ?_;obtain⟨j,J,h⟩:=aa h;refine ka (kO (N:=[(.tmp 48,.eq z7)]) (au [.tmp 48] rfl rfl Wn rfl (vV k x6 j J)) (λ_ _ _ hv hn=>⟨(lend hn.1 hv),trivial⟩) (λ_=>⟨rfl,ou⟩)) ?_;refine jb (eX [(0,.tmp 47,_),(1,.tmp 49,_)] rfl Jo DJ Db (kZ ⟨rfl,rfl,trivial⟩) rfl) ?_;refine fr 1 ?_;refine aS rfl rfl (aN rfl xQ trivial rfl rfl) ⟨rfl,rfl,trivial⟩ ?_;refine cq (nt (aD ?_));refine bv (ie (a:=.agg (.pair (I l) (I j))) (a':=.rep cj (l,j)) (kA (.agg (.pair .int .int)))) ?_;cases h;exact aV () [.rep cj (l,j),_] 0 ⟨⟨_,_,_,_,_,rfl,(.head _),xQ,(oM),rfl⟩,rfl,trivial⟩ rfl
def nC(k:Nat)(a0:ab)(a1:Int)(r2:(Option ab)×(List Int)×Int)(q3:ab)(y7:(List Int)×Int):Nat->(Int×Int)->Option Int
 |0,_=>none
 |n+1,c=>
  if c.2 < (r2.2.1.length:Int) then((((aH r2.2.1 c.2).bind λr=>
  (mV k q3 r).bind λu=>
  (aH u a1).bind λl=>
  (aH l y7.2).bind λj=>
  if a0.2.2.1≤j then((ck (c.1+1)).bind λh=>
  some h) else(some c.1)):Option (Int)).bind λs=>
  (ck (c.2+1)).bind λe=>
  nC k a0 a1 r2 q3 y7 n (s,e)) else(some c.1)
def nD(k:Nat)(a0:ab)(a1:Int)(r2:(Option ab)×(List Int)×Int)(q3:ab):Nat->((List Int)×Int)->Option (List Int)
 |0,_=>none
 |n+1,y7=>
  if y7.2 < a0.1 then(((((nC k a0 a1 r2 q3 y7 k (0,0)):Option (Int)).bind λc=>
  (ck ((r2.2.1.length:Int) - c)).bind λe=>
  (bV (bb (length y7.1+length [uw c e]))).bind λ_=>
  some (y7.1++[uw c e])):Option ((List Int))).bind λx9=>
  (ck (y7.2+1)).bind λh=>
  nD k a0 a1 r2 q3 n (x9,h)) else(some y7.1)
def wF(k:Nat)(a0:ab)(a1:Int):Option (Int×Int×Int):=
 (jR k a0 ([]:(List Int)) ([]:(List Int)) [a1]).bind λr2=>
 ib r2.1 (if¬(r2.2.2=0) then(some (0,0,r2.2.2)) else(none)) (λq3=>if¬(r2.2.2=0) then(some (0,0,r2.2.2)) else(((nD k a0 a1 r2 q3 k (([]:(List Int)),0)):Option ((List Int))).bind λx5=>
 (np k x5).bind λc=>
 if(r2.2.1.length:Int)≤c then(some (0,0,11)) else((ir k x5 c).bind λe=>
 some (e,c,0))))
theorem BW(k:Nat)(a0:ab)(a1:Int)(r:Int×Int×Int)(h:wF k a0 a1=some r):
 cC (eP Tryz.prog) 25 [.rep am a0,I a1] [] (λ_:Unit=>(bz [I r.1,I r.2.1,I r.2.2],[])):=by
 unfold wF at h
 replace h:=aW h
 refine cC.of 71 Tryz.func25 rfl Tryz.ntmps25 rfl λS w0=>?_
 refine sr ?_
 refine bx λb1=>?_
 refine cq ?_
 refine cq ?_
 refine cq ?_
 refine nt ?_
 refine sr ?_
 refine lo cY ?_
 refine mq ?_
 refine ja (aR (t:=Ti) [(.tmp 18,_)] [a1] rfl rfl cH (.cons rfl .int .nil) rfl rfl) ?_
 obtain⟨r2,XD,h⟩:=aa h
 have s:=lV k a0 ([]:(List Int)) ([]:(List Int)) [a1] r2 XD
 rcases hr:r2.1 with _ |q3
 .
  rw [hr] at h s;replace h:=xb h;refine aU (Δ:=[]) (F:=_) (λ_ _ _=>aj rfl _) rfl rfl (bX (N:=[(.tmp 17,.rep am a0),(.const (.slice none 0 0),.eq (.slice none 0 0)),(.const (.slice none 0 0),.eq (.slice none 0 0)),(.tmp 19,.rep Tl [a1])]) (bp [.tmp 17,.const (.slice none 0 0),.const (.slice none 0 0),.tmp 19] rfl rfl CQ rfl s) λ_ _ _ hn=>⟨hn.1,(aM (t:=Tl) (x:=([]:(List Int))) .nil rfl rfl hn.2.1),(aM (t:=Tl) (x:=([]:(List Int))) .nil rfl rfl hn.2.2.1),hn.2.2.2.1,trivial⟩) ⟨rfl,rfl,rfl,rfl,trivial⟩ λ_=>?_;refine mq ?_;refine xr ?_;refine xr ?_;refine xr ?_;refine aq ?_;refine aq ?_;refine aq (nt (ai (sr ?_)));refine mq ?_;refine jb (dZ rfl) ?_;refine nt (cn h (λh=>?_) (λh=>?_))
  .refine sr (mq ?_);refine cq ?_;refine cq ?_;refine aq (nt (rx ?_));cases h;exact aV () [_,_,_] 0 ⟨rfl,rfl,rfl,trivial⟩ rfl
  .cases h
 .
  rw [hr] at h s;replace h:=wZ h;refine aU (Δ:=[]) (F:=_) (λ_ _ _=>aj rfl _) rfl rfl (bX (N:=[(.tmp 17,.rep am a0),(.const (.slice none 0 0),.eq (.slice none 0 0)),(.const (.slice none 0 0),.eq (.slice none 0 0)),(.tmp 19,.rep Tl [a1])]) (bp [.tmp 17,.const (.slice none 0 0),.const (.slice none 0 0),.tmp 19] rfl rfl CQ rfl s) λ_ _ _ hn=>⟨hn.1,(aM (t:=Tl) (x:=([]:(List Int))) .nil rfl rfl hn.2.1),(aM (t:=Tl) (x:=([]:(List Int))) .nil rfl rfl hn.2.2.1),hn.2.2.2.1,trivial⟩) ⟨rfl,rfl,rfl,rfl,trivial⟩ λz4=>?_;refine mq ?_;refine xr ?_;refine xr ?_;refine xr ?_;refine aq ?_;refine aq ?_;refine aq (nt (ai (sr ?_)));refine mq ?_;refine jb (dZ rfl) ?_;refine nt (cn h (λh=>?_) (λh=>?_))
  .refine sr (mq ?_);refine cq ?_;refine cq ?_;refine aq (nt (rx ?_));cases h;exact aV () [_,_,_] 0 ⟨rfl,rfl,rfl,trivial⟩ rfl
  .refine sk (sr (cq (nt ?_)));refine aC (Z:=Value) (α:=(List Int)) (λz6 x5=>[(8,.rep (.slice (.int .u8)) r2.2.1),(10,.eq z6)]) (λz6 x5=>[.sl z6 3 Ti x5,.inv z4.2 (cu k q3)]) h (λK h=>?_) (λz6 x5 h=>?_)
   .refine sr (fl fx ?_);refine fr 2 ?_;refine lo bJ ?_;refine fF rfl ?_;refine nt (ah (gi (SE.nil 3 Ti) ?_));refine aE (λz8 y7=>[(1,I a1),(2,Pt b1),(7,.eq (.pointer (some ⟨z4.1,0,none⟩))),(8,.rep (.slice (.int .u8)) r2.2.1),(10,.eq z8),(28,I a0.1),(29,I y7.2)]) (λz8 y7=>[.obj b1 25 (.rep am a0),.obj z4.1 123 (be q3 z4.2),.sl z8 3 Ti y7.1,.inv z4.2 (cu k q3)]) (nD k a0 a1 r2 q3) k (.slice none 0 0) (([]:(List Int)),0) (λ_=>rfl) h (SE.fin [1,2,0,3] ⟨rfl,rfl,rfl,rfl,rfl,rfl,rfl,trivial⟩ rfl) (λn z8 y7 h=>?_);unfold nD at h;refine sr (jb (bj rfl) ?_);refine nt (ai (ci h (λh=>?_) (λh=>?_)))
    .refine sk (aC (Z:=Value) (α:=(List Int)) (λe x9=>[(1,I a1),(2,Pt b1),(7,.eq (.pointer (some ⟨z4.1,0,none⟩))),(8,.rep (.slice (.int .u8)) r2.2.1),(10,.eq e),(28,I a0.1),(29,I y7.2)]) (λe x9=>[.obj b1 25 (.rep am a0),.obj z4.1 123 (be q3 z4.2),.sl e 3 Ti x9,.inv z4.2 (cu k q3)]) h (λK h=>?_) (λe x9 h=>?_))
     .refine ah (sr (mq ?_));refine aq (nt (sr ?_));refine cq (nt ?_);refine aC (Z:=Unit) (α:=Int) (λE j=>[(1,I a1),(2,Pt b1),(7,.eq (.pointer (some ⟨z4.1,0,none⟩))),(8,.rep (.slice (.int .u8)) r2.2.1),(10,.eq z8),(12,I j),(28,I a0.1),(29,I y7.2)]) (λE j=>[.obj b1 25 (.rep am a0),.obj z4.1 123 (be q3 z4.2),.sl z8 3 Ti y7.1,.inv z4.2 (cu k q3)]) h (λK h=>?_) (λE j h=>?_)
      .refine sr (mq ?_);refine ol AW ?_;refine fF rfl ?_;refine nt (ah (aE (λD c=>[(1,I a1),(2,Pt b1),(7,.eq (.pointer (some ⟨z4.1,0,none⟩))),(8,.rep (.slice (.int .u8)) r2.2.1),(10,.eq z8),(11,I y7.2),(12,I c.1),(28,I a0.1),(29,I y7.2),(32,.rep (.slice (.int .u8)) r2.2.1),(33,I (r2.2.1.length:Int)),(34,I c.2)]) (λD c=>[.obj b1 25 (.rep am a0),.obj z4.1 123 (be q3 z4.2),.sl z8 3 Ti y7.1,.inv z4.2 (cu k q3)]) (nC k a0 a1 r2 q3 y7) k () (0,0) (λ_=>rfl) h (SE.fin [0,1,2,3] ⟨rfl,rfl,rfl,rfl,rfl,rfl,rfl,rfl,rfl,rfl,rfl,rfl,trivial⟩ rfl) (λn D c h=>?_)));unfold nC at h;refine sr (jb (bj rfl) ?_);refine nt (ai (ci h (λh=>?_) (λh=>?_)))
       .refine sk (aC (Z:=Unit) (α:=Int) (λy l=>[(1,I a1),(2,Pt b1),(7,.eq (.pointer (some ⟨z4.1,0,none⟩))),(8,.rep (.slice (.int .u8)) r2.2.1),(10,.eq z8),(11,I y7.2),(12,I l),(28,I a0.1),(29,I y7.2),(32,.rep (.slice (.int .u8)) r2.2.1),(33,I (r2.2.1.length:Int)),(34,I c.2)]) (λy l=>[.obj b1 25 (.rep am a0),.obj z4.1 123 (be q3 z4.2),.sl z8 3 Ti y7.1,.inv z4.2 (cu k q3)]) h (λK h=>?_) (λy l h=>?_))
        .refine ah (sr ?_);obtain⟨Xz,mc,h⟩:=aa h;refine jb (ay (t:=(.int .u8)) rfl AW pA mc) ?_;refine ja (ak (t:=(.int .u8)) rfl pA rfl) ?_;refine aq (nt (ai ?_));refine bu ?_;refine dm ?_;refine dm ?_;obtain⟨XC,Xv,h⟩:=aa h;refine Si 1 3 rfl rfl (by kernel_rfl) rfl rfl rfl (bp [.tmp 38,.tmp 39] rfl rfl HC rfl (qQ k q3 z4.1 z4.2 Xz XC Xv)) ⟨rfl,rfl,trivial⟩ ?_;refine dm ?_;obtain⟨XF,Y,h⟩:=aa h;refine db (pR (t:=Tr) rfl yl gh rfl rfl (oM) Y) ?_;refine dm ?_;obtain⟨XE,X,h⟩:=aa h;refine db (pR (t:=Ti) rfl sG bJ rfl rfl (λ_=>rfl) X) ?_;refine da (av rfl so) ?_;refine ea 0 (ao rfl bJ jQ rfl) ?_;refine df bY ?_;refine jb (gV rfl) ?_;refine nt (ci h (λh=>?_) (λh=>?_))
         .refine ae (mq ?_);obtain⟨Xy,U,h⟩:=aa h;refine jb (bh rfl U) ?_;refine aq (aG (bn ?_));exact jz ((),Xy) h [0,1,2,3]
         .refine ba (bn ?_);exact jz ((),c.1) h [0,1,2,3]
        .refine ae ?_;obtain⟨Xx,Q,h⟩:=aa h;refine jb (bh rfl Q) ?_;refine mq (nl ?_);exact jz ((),(l,Xx)) h [0,1,2,3]
       .refine xa ?_;exact jz ((),c.1) h [0,1,2,3]
      .refine ae ?_;iterate 3 refine mq ?_
       refine ol AW ?_;refine mq ?_;obtain⟨J,O,h⟩:=aa h;refine jb (dR rfl O) ?_;refine jb (Jw rfl rfl) ?_;refine ja (aR (t:=Ti) [(.tmp 57,_)] [uw j J] rfl rfl cH (.cons rfl .int .nil) rfl rfl) ?_;obtain⟨XG,mw,h⟩:=aa h;refine fr 2 ?_;refine cz rfl rfl rfl (bi rfl rfl cH (ap mw)) ⟨rfl,rfl,trivial⟩ λXA=>?_;refine aq (aG (bn ?_));exact jz (XA,y7.1++[uw j J]) h [1,2,0,3]
     .refine ae ?_;obtain⟨Xw,M,h⟩:=aa h;refine jb (bh rfl M) ?_;refine mq (nl ?_);exact jz (e,(x9,Xw)) h [0,1,2,3]
    .refine xa ?_;exact jz (z8,y7.1) h [2,3]
   .refine sr (mq ?_);obtain⟨u,zz,h⟩:=aa h;refine ka (kO (N:=[(.tmp 61,.eq z6)]) (au [.tmp 61] rfl rfl Up rfl (pE k x5 u zz)) (λ_ _ _ hv hn=>⟨(lend hn.1 hv),trivial⟩) (λ_=>⟨rfl,ou⟩)) ?_;refine aq (nt (ai (sr ?_)));iterate 2 refine mq ?_
    refine ol AW ?_;refine jb (gV rfl) ?_;refine nt (ci h (λh=>?_) (λh=>?_))
    .refine sr (cq ?_);refine cq ?_;refine cq (nt (rx ?_));cases h;exact aV () [_,_,_] 0 ⟨rfl,rfl,rfl,trivial⟩ rfl
    .refine sk (sr ?_);iterate 2 refine mq ?_
     obtain⟨XB,qt,h⟩:=aa h;refine kb (kO (N:=[(.tmp 67,.eq z6),(.tmp 68,I u)]) (au [.tmp 67,.tmp 68] rfl rfl Uo rfl (oa k x5 u XB qt)) (λ_ _ _ hv hn=>⟨(lend hn.1 hv),hn.2.1,trivial⟩) (λ_=>⟨rfl,ou⟩)) ?_;refine mq ?_;refine aq ?_;refine aq ?_;refine cq (nt (aD ?_));cases h;exact aV () [_,_,_] 0 ⟨rfl,rfl,rfl,trivial⟩ rfl
def qd(k:Nat):Option Bool:=
 (jT k ([]:(List aQ))).bind λr1=>
 (rX k r1 [0]).bind λr2=>
 (jT k ([]:(List aQ))).bind λr3=>
 (rY k r3).bind λr4=>
 (jT k ([]:(List aQ))).bind λr5=>
 (ui k r5 2).bind λr6=>
 (jT k ([]:(List aQ))).bind λr8=>
 (mh k r8 [0] 3).bind λr9=>
 (jT k ([]:(List aQ))).bind λu=>
 (wF k u 2).bind λc=>
 (jT k ([]:(List aQ))).bind λs=>
 (rW k s 2).bind λe=>
 ((if r2.2=0 then(if r4.2=0 then(if r6.2=0 then(if r9.2=0 then(if c.2.2=0 then(if e.2=0 then(if r6.1=(1,3) then(if c.1=2 then(if c.2.1=2 then((gf k r2.1 [[1,(-1:Int),(-1:Int),(-1:Int)],[2,0,(-1:Int),(-1:Int)],[3,1,(-1:Int),(-1:Int)],[3,2,0,(-1:Int)],[(-1:Int),3,1,0]]).bind λr=>
 if r=true then((gf k r4.1 [[0],[0,1],[1]]).bind λn=>
 if n=true then((eJ k r9.1 [0,1,3]).bind λl=>
 if l=true then((eJ k e.1 [1,2]).bind λj=>
 some j) else(some false)) else(some false)) else(some false)) else(some false)) else(some false)) else(some false)) else(some false)) else(some false)) else(some false)) else(some false)) else(some false)) else(some false)):Option (Bool)).bind λh=>
 some h
theorem uV(k:Nat)(r:Bool)(h:qd k=some r):
 cC (eP Tryz.prog) 6 [] [] (λ_:Unit=>(bz [.eq (.bool r)],[])):=by
 unfold qd at h
 replace h:=aW h
 refine cC.of 110 Tryz.func6 rfl Tryz.ntmps6 rfl λS w0=>?_
 refine sr ?_
 refine cq ?_
 refine nt ?_
 refine sr ?_
 obtain⟨r1,XC,h⟩:=aa h
 have XK:=iZ k ([]:(List aQ)) r1 XC
 refine ja (bX (N:=[(.const (.slice none 0 0),.eq (.slice none 0 0))]) (au [.const (.slice none 0 0)] rfl rfl HE rfl XK) λ_ _ _ hn=>⟨(aM (t:=(.slice aL)) (x:=([]:(List aQ))) .nil rfl rfl hn.1),trivial⟩) ?_
 refine ja (aR (t:=Ti) [(.const (.int .i64 (0)),_)] [0] rfl rfl cH (.cons rfl .int .nil) rfl rfl) ?_
 obtain⟨r2,XB,h⟩:=aa h
 have XJ:=yg k r1 [0] r2 XB
 refine jb (bp [.tmp 15,.tmp 16] rfl rfl WH rfl XJ) ?_
 refine mq ?_
 refine xr ?_
 refine xr ?_
 refine aq ?_
 refine aq ?_
 refine nt ?_
 refine sr ?_
 obtain⟨r3,XA,h⟩:=aa h
 have XI:=iZ k ([]:(List aQ)) r3 XA
 refine ja (bX (N:=[(.const (.slice none 0 0),.eq (.slice none 0 0))]) (au [.const (.slice none 0 0)] rfl rfl HE rfl XI) λ_ _ _ hn=>⟨(aM (t:=(.slice aL)) (x:=([]:(List aQ))) .nil rfl rfl hn.1),trivial⟩) ?_
 obtain⟨r4,Xz,h⟩:=aa h
 have XH:=yh k r3 r4 Xz
 refine ja (bp [.tmp 21] rfl rfl WG rfl XH) ?_
 refine mq ?_
 refine xr ?_
 refine xr ?_
 refine aq ?_
 refine aq ?_
 refine nt ?_
 refine sr ?_
 obtain⟨r5,Xy,h⟩:=aa h
 have XG:=iZ k ([]:(List aQ)) r5 Xy
 refine ja (bX (N:=[(.const (.slice none 0 0),.eq (.slice none 0 0))]) (au [.const (.slice none 0 0)] rfl rfl HE rfl XG) λ_ _ _ hn=>⟨(aM (t:=(.slice aL)) (x:=([]:(List aQ))) .nil rfl rfl hn.1),trivial⟩) ?_
 obtain⟨r6,Xx,h⟩:=aa h
 have XF:=zX k r5 2 r6 Xx
 refine jb (bp [.tmp 26,.const (.int .i64 (2))] rfl rfl WE rfl XF) ?_
 refine mq ?_
 refine xr ?_
 refine xr ?_
 refine bf rfl rfl rfl (bA rfl DJ UO) trivial λb7=>?_
 refine aS rfl rfl (aN rfl xQ rfl rfl rfl) ⟨rfl,rfl,trivial⟩ ?_
 refine aq ?_
 refine nt ?_
 refine sr ?_
 obtain⟨r8,Xw,h⟩:=aa h
 have XE:=iZ k ([]:(List aQ)) r8 Xw
 refine ja (bX (N:=[(.const (.slice none 0 0),.eq (.slice none 0 0))]) (au [.const (.slice none 0 0)] rfl rfl HE rfl XE) λ_ _ _ hn=>⟨(aM (t:=(.slice aL)) (x:=([]:(List aQ))) .nil rfl rfl hn.1),trivial⟩) ?_
 refine ja (aR (t:=Ti) [(.const (.int .i64 (0)),_)] [0] rfl rfl cH (.cons rfl .int .nil) rfl rfl) ?_
 obtain⟨r9,Xv,h⟩:=aa h
 have XD:=ti k r8 [0] 3 r9 Xv
 refine jc (bp [.tmp 31,.tmp 32,.const (.int .i64 (3))] rfl rfl Uz rfl XD) ?_
 refine mq ?_
 refine xr ?_
 refine xr ?_
 refine aq ?_
 refine aq ?_
 refine nt ?_
 refine sr ?_
 obtain⟨u,O,h⟩:=aa h
 have Y:=iZ k ([]:(List aQ)) u O
 refine ja (bX (N:=[(.const (.slice none 0 0),.eq (.slice none 0 0))]) (au [.const (.slice none 0 0)] rfl rfl HE rfl Y) λ_ _ _ hn=>⟨(aM (t:=(.slice aL)) (x:=([]:(List aQ))) .nil rfl rfl hn.1),trivial⟩) ?_
 obtain⟨zz,M,h⟩:=aa h
 have X:=BW k u 2 zz M
 refine jb (bp [.tmp 37,.const (.int .i64 (2))] rfl rfl WC rfl X) ?_
 refine mq ?_
 refine xr ?_
 refine xr ?_
 refine xr ?_
 refine aq ?_
 refine aq ?_
 refine aq ?_
 refine nt ?_
 refine sr ?_
 obtain⟨n,J,h⟩:=aa h
 have U:=iZ k ([]:(List aQ)) n J
 refine ja (bX (N:=[(.const (.slice none 0 0),.eq (.slice none 0 0))]) (au [.const (.slice none 0 0)] rfl rfl HE rfl U) λ_ _ _ hn=>⟨(aM (t:=(.slice aL)) (x:=([]:(List aQ))) .nil rfl rfl hn.1),trivial⟩) ?_
 obtain⟨l,I,h⟩:=aa h
 have Q:=yf k n 2 l I
 refine jb (bp [.tmp 43,.const (.int .i64 (2))] rfl rfl WI rfl Q) ?_
 refine mq ?_
 refine xr ?_
 refine xr ?_
 refine aq ?_
 refine aq ?_
 refine nt ?_
 refine aC (Z:=Unit) (α:=Bool) (λe c=>[(0,.eq (.bool c))]) (λe c=>[]) h (λK h=>?_) (λe c h=>?_)
 .
  refine ae (mq ?_);refine jb (jO rfl) ?_;refine mq ?_;refine bU (s:=49) rfl (λhb=>?_) (λhb=>?_)
  .replace h:=dO (uE hb) h;refine gm ?_;refine gb (jO rfl) ?_;refine pt ?_;refine mq ?_;refine bU (s:=53) rfl (λhb=>?_) (λhb=>?_)
   .replace h:=dO (uE hb) h;refine gm ?_;refine gb (jO rfl) ?_;refine pt ?_;refine mq ?_;refine bU (s:=57) rfl (λhb=>?_) (λhb=>?_)
    .replace h:=dO (uE hb) h;refine gm ?_;refine gb (jO rfl) ?_;refine pt ?_;refine mq ?_;refine bU (s:=61) rfl (λhb=>?_) (λhb=>?_)
     .replace h:=dO (uE hb) h;refine gm ?_;refine gb (jO rfl) ?_;refine pt ?_;refine mq ?_;refine bU (s:=65) rfl (λhb=>?_) (λhb=>?_)
      .replace h:=dO (uE hb) h;refine gm ?_;refine gb (jO rfl) ?_;refine pt ?_;refine mq ?_;refine bU (s:=69) rfl (λhb=>?_) (λhb=>?_)
       .replace h:=dO (uE hb) h;refine fe rfl rfl rfl rfl rfl rfl (ao rfl xQ (oM) rfl) ⟨rfl,trivial⟩ ?_;refine gb (eX [(0,.const (.int .i64 (1)),_),(1,.const (.int .i64 (3)),_)] rfl Jo DJ Db (kZ ⟨rfl,rfl,trivial⟩) rfl) ?_;refine eQ (dA (t:=cj) (x:=(1,3)) 71 rfl (.agg (.pair .int .int)) trivial rfl) ?_;refine gb (QP rfl VY rfl) ?_;refine pt ?_;refine mq ?_;refine bU (s:=74) rfl (λhb=>?_) (λhb=>?_)
        .replace h:=dO (uE hb) h;refine gm ?_;refine gb (jO rfl) ?_;refine pt ?_;refine mq ?_;refine bU (s:=78) rfl (λhb=>?_) (λhb=>?_)
         .replace h:=dO (uE hb) h;refine gm ?_;refine gb (jO rfl) ?_;refine pt ?_;refine mq ?_;refine bU (s:=82) rfl (λhb=>?_) (λhb=>?_)
          .replace h:=dO (uE hb) h;refine gm ?_;refine nU rfl rfl rfl rfl rfl rfl (aR (t:=Ti) [(.const (.int .i64 (1)),_),(.const (.int .i64 (-1)),_),(.const (.int .i64 (-1)),_),(.const (.int .i64 (-1)),_)] [1,(-1:Int),(-1:Int),(-1:Int)] rfl rfl cH (.cons rfl .int (.cons rfl .int (.cons rfl .int (.cons rfl .int .nil)))) rfl rfl) ⟨rfl,rfl,rfl,rfl,trivial⟩ ?_;refine nU rfl rfl rfl rfl rfl rfl (aR (t:=Ti) [(.const (.int .i64 (2)),_),(.const (.int .i64 (0)),_),(.const (.int .i64 (-1)),_),(.const (.int .i64 (-1)),_)] [2,0,(-1:Int),(-1:Int)] rfl rfl cH (.cons rfl .int (.cons rfl .int (.cons rfl .int (.cons rfl .int .nil)))) rfl rfl) ⟨rfl,rfl,rfl,rfl,trivial⟩ ?_;refine nU rfl rfl rfl rfl rfl rfl (aR (t:=Ti) [(.const (.int .i64 (3)),_),(.const (.int .i64 (1)),_),(.const (.int .i64 (-1)),_),(.const (.int .i64 (-1)),_)] [3,1,(-1:Int),(-1:Int)] rfl rfl cH (.cons rfl .int (.cons rfl .int (.cons rfl .int (.cons rfl .int .nil)))) rfl rfl) ⟨rfl,rfl,rfl,rfl,trivial⟩ ?_;refine nU rfl rfl rfl rfl rfl rfl (aR (t:=Ti) [(.const (.int .i64 (3)),_),(.const (.int .i64 (2)),_),(.const (.int .i64 (0)),_),(.const (.int .i64 (-1)),_)] [3,2,0,(-1:Int)] rfl rfl cH (.cons rfl .int (.cons rfl .int (.cons rfl .int (.cons rfl .int .nil)))) rfl rfl) ⟨rfl,rfl,rfl,rfl,trivial⟩ ?_;refine nU rfl rfl rfl rfl rfl rfl (aR (t:=Ti) [(.const (.int .i64 (-1)),_),(.const (.int .i64 (3)),_),(.const (.int .i64 (1)),_),(.const (.int .i64 (0)),_)] [(-1:Int),3,1,0] rfl rfl cH (.cons rfl .int (.cons rfl .int (.cons rfl .int (.cons rfl .int .nil)))) rfl rfl) ⟨rfl,rfl,rfl,rfl,trivial⟩ ?_;refine nU rfl rfl rfl rfl rfl rfl (aR (t:=Tl) [(.tmp 84,_),(.tmp 85,_),(.tmp 86,_),(.tmp 87,_),(.tmp 88,_)] [[1,(-1:Int),(-1:Int),(-1:Int)],[2,0,(-1:Int),(-1:Int)],[3,1,(-1:Int),(-1:Int)],[3,2,0,(-1:Int)],[(-1:Int),3,1,0]] rfl rfl lS (.cons rfl .rep (.cons rfl .rep (.cons rfl .rep (.cons rfl .rep (.cons rfl .rep .nil))))) rfl rfl) ⟨rfl,rfl,rfl,rfl,rfl,trivial⟩ ?_;obtain⟨qt,F,h⟩:=aa h;refine gb (au [.tmp 83,.tmp 89] rfl rfl Rq rfl (kK k r2.1 [[1,(-1:Int),(-1:Int),(-1:Int)],[2,0,(-1:Int),(-1:Int)],[3,1,(-1:Int),(-1:Int)],[3,2,0,(-1:Int)],[(-1:Int),3,1,0]] qt F)) ?_;refine pt ?_;refine mq ?_;refine bU (s:=92) rfl (λhb=>?_) (λhb=>?_)
           .replace h:=dO (Ig hb) h;refine gm ?_;refine ga (aR (t:=Ti) [(.const (.int .i64 (0)),_)] [0] rfl rfl cH (.cons rfl .int .nil) rfl rfl) ?_;refine gb (aR (t:=Ti) [(.const (.int .i64 (0)),_),(.const (.int .i64 (1)),_)] [0,1] rfl rfl cH (.cons rfl .int (.cons rfl .int .nil)) rfl rfl) ?_;refine ga (aR (t:=Ti) [(.const (.int .i64 (1)),_)] [1] rfl rfl cH (.cons rfl .int .nil) rfl rfl) ?_;refine gc (aR (t:=Tl) [(.tmp 94,_),(.tmp 95,_),(.tmp 96,_)] [[0],[0,1],[1]] rfl rfl lS (.cons rfl .rep (.cons rfl .rep (.cons rfl .rep .nil))) rfl rfl) ?_;obtain⟨mw,E,h⟩:=aa h;refine gb (au [.tmp 93,.tmp 97] rfl rfl Rq rfl (kK k r4.1 [[0],[0,1],[1]] mw E)) ?_;refine pt ?_;refine mq ?_;refine bU (s:=100) rfl (λhb=>?_) (λhb=>?_)
            .replace h:=dO (Ig hb) h;refine gm ?_;refine gc (aR (t:=Ti) [(.const (.int .i64 (0)),_),(.const (.int .i64 (1)),_),(.const (.int .i64 (3)),_)] [0,1,3] rfl rfl cH (.cons rfl .int (.cons rfl .int (.cons rfl .int .nil))) rfl rfl) ?_;obtain⟨mc,D,h⟩:=aa h;refine gb (au [.tmp 101,.tmp 102] rfl rfl HF rfl (fL k r9.1 [0,1,3] mc D)) ?_;refine pt ?_;refine mq ?_;refine bU (s:=105) rfl (λhb=>?_) (λhb=>?_)
             .replace h:=dO (Ig hb) h;refine gm ?_;refine gb (aR (t:=Ti) [(.const (.int .i64 (1)),_),(.const (.int .i64 (2)),_)] [1,2] rfl rfl cH (.cons rfl .int (.cons rfl .int .nil)) rfl rfl) ?_;obtain⟨j,y,h⟩:=aa h;refine gb (au [.tmp 106,.tmp 107] rfl rfl HF rfl (fL k l.1 [1,2] j y)) ?_;refine pt ?_;refine aq (nl ?_);exact jz ((),j) h []
             .replace h:=bZ (Ih hb) h;iterate 3 refine gn ?_
              refine pf ?_;refine aq (nl ?_);exact jz ((),false) h []
            .replace h:=bZ (Ih hb) h;iterate 3 refine gn ?_
             refine pf ?_;refine mq ?_;iterate 3 refine gn ?_
             refine pf ?_;refine aq (nl ?_);exact jz ((),false) h []
           .replace h:=bZ (Ih hb) h;iterate 6 refine gn ?_
            refine pf ?_;refine mq ?_;iterate 3 refine gn ?_
            refine pf ?_;refine mq ?_;iterate 3 refine gn ?_
            refine pf ?_;refine aq (nl ?_);exact jz ((),false) h []
          .replace h:=bZ (uF hb) h;iterate 8 refine gn ?_
           refine pf ?_;refine mq ?_;iterate 6 refine gn ?_
           refine pf ?_;refine mq ?_;iterate 3 refine gn ?_
           refine pf ?_;refine mq ?_;iterate 3 refine gn ?_
           refine pf ?_;refine aq (nl ?_);exact jz ((),false) h []
         .replace h:=bZ (uF hb) h;iterate 2 refine gn ?_
          refine pf ?_;refine mq ?_;iterate 8 refine gn ?_
          refine pf ?_;refine mq ?_;iterate 6 refine gn ?_
          refine pf ?_;refine mq ?_;iterate 3 refine gn ?_
          refine pf ?_;refine mq ?_;iterate 3 refine gn ?_
          refine pf ?_;refine aq (nl ?_);exact jz ((),false) h []
        .replace h:=bZ (uF hb) h;iterate 2 refine gn ?_
         refine pf ?_;refine mq ?_;iterate 2 refine gn ?_
         refine pf ?_;refine mq ?_;iterate 8 refine gn ?_
         refine pf ?_;refine mq ?_;iterate 6 refine gn ?_
         refine pf ?_;refine mq ?_;iterate 3 refine gn ?_
         refine pf ?_;refine mq ?_;iterate 3 refine gn ?_
         refine pf ?_;refine aq (nl ?_);exact jz ((),false) h []
       .replace h:=bZ (uF hb) h;iterate 3 refine gn ?_
        refine pf ?_;refine mq ?_;iterate 2 refine gn ?_
        refine pf ?_;refine mq ?_;iterate 2 refine gn ?_
        refine pf ?_;refine mq ?_;iterate 8 refine gn ?_
        refine pf ?_;refine mq ?_;iterate 6 refine gn ?_
        refine pf ?_;refine mq ?_;iterate 3 refine gn ?_
        refine pf ?_;refine mq ?_;iterate 3 refine gn ?_
        refine pf ?_;refine aq (nl ?_);exact jz ((),false) h []
      .replace h:=bZ (uF hb) h;iterate 2 refine gn ?_
       refine pf ?_;refine mq ?_;iterate 3 refine gn ?_
       refine pf ?_;refine mq ?_;iterate 2 refine gn ?_
       refine pf ?_;refine mq ?_;iterate 2 refine gn ?_
       refine pf ?_;refine mq ?_;iterate 8 refine gn ?_
       refine pf ?_;refine mq ?_;iterate 6 refine gn ?_
       refine pf ?_;refine mq ?_;iterate 3 refine gn ?_
       refine pf ?_;refine mq ?_;iterate 3 refine gn ?_
       refine pf ?_;refine aq (nl ?_);exact jz ((),false) h []
     .replace h:=bZ (uF hb) h;iterate 2 refine gn ?_
      refine pf ?_;refine mq ?_;iterate 2 refine gn ?_
      refine pf ?_;refine mq ?_;iterate 3 refine gn ?_
      refine pf ?_;refine mq ?_;iterate 2 refine gn ?_
      refine pf ?_;refine mq ?_;iterate 2 refine gn ?_
      refine pf ?_;refine mq ?_;iterate 8 refine gn ?_
      refine pf ?_;refine mq ?_;iterate 6 refine gn ?_
      refine pf ?_;refine mq ?_;iterate 3 refine gn ?_
      refine pf ?_;refine mq ?_;iterate 3 refine gn ?_
      refine pf ?_;refine aq (nl ?_);exact jz ((),false) h []
    .replace h:=bZ (uF hb) h;iterate 2 refine gn ?_
     refine pf ?_;refine mq ?_;iterate 2 refine gn ?_
     refine pf ?_;refine mq ?_;iterate 2 refine gn ?_
     refine pf ?_;refine mq ?_;iterate 3 refine gn ?_
     refine pf ?_;refine mq ?_;iterate 2 refine gn ?_
     refine pf ?_;refine mq ?_;iterate 2 refine gn ?_
     refine pf ?_;refine mq ?_;iterate 8 refine gn ?_
     refine pf ?_;refine mq ?_;iterate 6 refine gn ?_
     refine pf ?_;refine mq ?_;iterate 3 refine gn ?_
     refine pf ?_;refine mq ?_;iterate 3 refine gn ?_
     refine pf ?_;refine aq (nl ?_);exact jz ((),false) h []
   .replace h:=bZ (uF hb) h;iterate 2 refine gn ?_
    refine pf ?_;refine mq ?_;iterate 2 refine gn ?_
    refine pf ?_;refine mq ?_;iterate 2 refine gn ?_
    refine pf ?_;refine mq ?_;iterate 2 refine gn ?_
    refine pf ?_;refine mq ?_;iterate 3 refine gn ?_
    refine pf ?_;refine mq ?_;iterate 2 refine gn ?_
    refine pf ?_;refine mq ?_;iterate 2 refine gn ?_
    refine pf ?_;refine mq ?_;iterate 8 refine gn ?_
    refine pf ?_;refine mq ?_;iterate 6 refine gn ?_
    refine pf ?_;refine mq ?_;iterate 3 refine gn ?_
    refine pf ?_;refine mq ?_;iterate 3 refine gn ?_
    refine pf ?_;refine aq (nl ?_);exact jz ((),false) h []
  .replace h:=bZ (uF hb) h;iterate 2 refine gn ?_
   refine pf ?_;refine mq ?_;iterate 2 refine gn ?_
   refine pf ?_;refine mq ?_;iterate 2 refine gn ?_
   refine pf ?_;refine mq ?_;iterate 2 refine gn ?_
   refine pf ?_;refine mq ?_;iterate 2 refine gn ?_
   refine pf ?_;refine mq ?_;iterate 3 refine gn ?_
   refine pf ?_;refine mq ?_;iterate 2 refine gn ?_
   refine pf ?_;refine mq ?_;iterate 2 refine gn ?_
   refine pf ?_;refine mq ?_;iterate 8 refine gn ?_
   refine pf ?_;refine mq ?_;iterate 6 refine gn ?_
   refine pf ?_;refine mq ?_;iterate 3 refine gn ?_
   refine pf ?_;refine mq ?_;iterate 3 refine gn ?_
   refine pf ?_;refine aq (nl ?_);exact jz ((),false) h []
 .
  refine aD ?_;cases h;exact ra
def gy(k:Nat)(r4:(List Int)×bL):Nat->((List Int)×Int×Int×Int×(List (List Int)))->Option ((List Int)×Int×Int×(List (List Int)))
 |0,_=>none
 |n+1,y7=>
  if y7.2.2.2.1 < (r4.1.length:Int) then((((fg k (y7.1,y7.2.1,y7.2.2.1) 5).bind λc=>
  if c.1=true then(some (c.2.1,c.2.2.1,c.2.2.2,y7.2.2.2.2)) else((ck ((y7.2.2.2.2.length:Int) - 1)).bind λr=>
  (cD k (c.2.1,c.2.2.1,c.2.2.2) r).bind λe=>
  (aH y7.2.2.2.2 e.1).bind λj=>
  (aH r4.1 y7.2.2.2.1).bind λh=>
  (bV (bb (length j+length [h]))).bind λ_=>
  some (e.2.1,e.2.2.1,e.2.2.2,List.set y7.2.2.2.2 (Int.toNat e.1) (j++[h])))):Option ((List Int)×Int×Int×(List (List Int)))).bind λx9=>
  (ck (y7.2.2.2.1+1)).bind λl=>
  gy k r4 n (x9.1,x9.2.1,x9.2.2.1,l,x9.2.2.2)) else(some (y7.1,y7.2.1,y7.2.2.1,y7.2.2.2.2))
def lq(k:Nat)(a0:bL)(a1:Int):Option ((List (List Int))×bL):=
 (gX k (a0.1,a0.2.1,a0.2.2) 1 3).bind λr1=>
 (bV (0≤r1.1/\bb (Int.toNat r1.1))).bind λ_=>
 (iT k (r1.2.1,r1.2.2.1,r1.2.2.2) a1).bind λr4=>
 ((gy k r4 k (r4.2.1,r4.2.2.1,r4.2.2.2,0,List.replicate (Int.toNat r1.1) ([]:(List Int)))):Option ((List Int)×Int×Int×(List (List Int)))).bind λx5=>
 some (x5.2.2.2,(x5.1,x5.2.1,x5.2.2.1))
theorem wJ(k:Nat)(a0:bL)(c:Nat)(a1:Int)(r:(List (List Int))×bL)(h:lq k a0 a1=some r):
 cX Tryz.prog 88 [Pt c,I a1] [.obj c 61 (.agg (.pair (.rep Tl a0.1) (.pair (I a0.2.1) (.eq (.int .u64 a0.2.2)))))] (λ_:Unit=>(bz [.rep (.slice Tl) r.1],[.obj c 61 (.agg (.pair (.rep Tl r.2.1) (.pair (I r.2.2.1) (.eq (.int .u64 r.2.2.2)))))])):=by
 unfold lq at h
 replace h:=aW h
 refine cX.of 42 Tryz.func88 rfl Tryz.ntmps88 rfl λS w0=>?_
 refine sr ?_
 refine cq ?_
 refine nt ?_
 refine sr ?_
 refine mq ?_
 obtain⟨r1,XE,h⟩:=aa h
 have XG:=ku k (a0.1,a0.2.1,a0.2.2) c 1 3 r1 XE
 refine kc (au [.tmp 9,.const (.int .i64 (1)),.const (.int .i64 (3))] rfl rfl Oc rfl XG) ?_
 obtain⟨u2,U,h⟩:=aa h
 refine bf rfl rfl rfl (QO (t:=.val) (d:=.slice none 0 0) rfl lS SN (ap U).1 (ap U).2) ⟨rfl,rfl,trivial⟩ λv3=>?_
 refine eQ (Ll (F:=[.obj c 61 (.agg (.pair (.rep Tl r1.2.1) (.pair (I r1.2.2.1) (.eq (.int .u64 r1.2.2.2)))))])) ?_
 refine aq ?_
 refine nt ?_
 refine sr ?_
 iterate 2 refine mq ?_
 obtain⟨r4,XD,h⟩:=aa h
 have XF:=tl k (r1.2.1,r1.2.2.1,r1.2.2.2) c a1 r4 XD
 refine kb (au [.tmp 12,.tmp 13] rfl rfl UH rfl XF) ?_
 refine aq ?_
 refine nt ?_
 refine aC (Z:=(Value×(Nat->Value))) (α:=(List Int)×Int×Int×(List (List Int))) (λz6 x5=>[(5,.eq z6.1)]) (λz6 x5=>[.obj c 61 (.agg (.pair (.rep Tl x5.1) (.pair (I x5.2.1) (.eq (.int .u64 x5.2.2.1)))))]++zQ 28 z6 x5.2.2.2) h (λK h=>?_) (λz6 x5 h=>?_)
 .
  refine sr (cq (nt (ah ?_)));refine aE (Z:=(Value×(Nat->Value))) (α:=(List Int)×Int×Int×Int×(List (List Int))) (λz8 y7=>[(0,Pt c),(5,.eq z8.1),(6,.rep Tl r4.1),(7,I y7.2.2.2.1)]) (λz8 y7=>[.obj c 61 (.agg (.pair (.rep Tl y7.1) (.pair (I y7.2.1) (.eq (.int .u64 y7.2.2.1)))))]++zQ 28 z8 y7.2.2.2.2) (gy k r4) k (v3,λ_=>.slice none 0 0) (r4.2.1,r4.2.2.1,r4.2.2.2,0,List.replicate (Int.toNat r1.1) ([]:(List Int))) (λ_=>rfl) h (l6 [.obj c 61 (.agg (.pair (.rep Tl r4.2.1) (.pair (I r4.2.2.1) (.eq (.int .u64 r4.2.2.2)))))] (zQ 28 (v3,λ_=>.slice none 0 0) (List.replicate (Int.toNat r1.1) ([]:(List Int)))) [0] ⟨rfl,rfl,rfl,rfl,trivial⟩ rfl) (λn z8 y7 h=>?_);unfold gy at h;refine ai (sr ?_);iterate 2 refine mq ?_
  refine ol fD ?_;refine jb (bj rfl) ?_;refine nt (ci h (λh=>?_) (λh=>?_))
  .refine sk (aC (Z:=(Value×(Nat->Value))) (α:=(List Int)×Int×Int×(List (List Int))) (λy x9=>[(0,Pt c),(5,.eq y.1),(6,.rep Tl r4.1),(7,I y7.2.2.2.1)]) (λy x9=>[.obj c 61 (.agg (.pair (.rep Tl x9.1) (.pair (I x9.2.1) (.eq (.int .u64 x9.2.2.1)))))]++zQ 28 y x9.2.2.2) h (λK h=>?_) (λy x9 h=>?_))
   .refine ah (ai (sr (mq ?_)));obtain⟨j,mc,h⟩:=aa h;refine kb (au [.tmp 21,.const (.int .i64 (5))] rfl rfl Oi rfl (i7 k (y7.1,y7.2.1,y7.2.2.1) c 5 j mc)) ?_;refine nt (cv h (λh=>?_) (λh=>?_))
    .refine f9 (bO (c9 (ax ?_)));exact xy (z8,(j.2.1,j.2.2.1,j.2.2.2,y7.2.2.2.2)) h (l6 [.obj c 61 (.agg (.pair (.rep Tl j.2.1) (.pair (I j.2.2.1) (.eq (.int .u64 j.2.2.2)))))] (zQ 28 z8 y7.2.2.2.2) [0] ⟨rfl,rfl,rfl,rfl,trivial⟩ rfl)
    .refine sk (sr ?_);iterate 2 refine mq ?_
     refine Lu (pre:=[.obj c 61 (.agg (.pair (.rep Tl j.2.1) (.pair (I j.2.2.1) (.eq (.int .u64 j.2.2.2)))))]) rfl rfl rfl rfl rfl nk ⟨rfl,trivial⟩ ?_;obtain⟨qt,Q,h⟩:=aa h;refine jb (dR rfl Q) ?_;obtain⟨e,Y,h⟩:=aa h;refine kb (au [.tmp 23,.tmp 26] rfl rfl wU rfl (cI k (j.2.1,j.2.2.1,j.2.2.2) c qt e Y)) ?_;refine aq (nt ?_);obtain⟨x,s,h⟩:=aa h;refine gi (H3 (pre:=[.obj c 61 (.agg (.pair (.rep Tl e.2.1) (.pair (I e.2.2.1) (.eq (.int .u64 e.2.2.2)))))]) (FV s).2) ?_;obtain⟨u,O,h⟩:=aa h;obtain⟨u16,X,h⟩:=aa h;refine LA (Δ:=[.sl (z8.2 (Int.toNat e.1)) 3 Ti x,.sl z8.1 28 .val (py z8.2 0 y7.2.2.2.2),.obj c 61 (.agg (.pair (.rep Tl e.2.1) (.pair (I e.2.2.1) (.eq (.int .u64 e.2.2.2)))))]) (F:=(pm z8.2 0 y7.2.2.2.2).eraseIdx (Int.toNat e.1)) (Z:=Value) (λi=>[(0,Pt c),(5,.eq z8.1),(6,.rep Tl r4.1),(7,I y7.2.2.2.1)]) (λi=>[.sl z8.1 28 .val (List.set (py z8.2 0 y7.2.2.2.2) (Int.toNat e.1) i),.sl i 3 Ti (x++[u]),.obj c 61 (.agg (.pair (.rep Tl e.2.1) (.pair (I e.2.2.1) (.eq (.int .u64 e.2.2.2)))))]) (λS w=>?_) (λl=>?_)
     .refine qw ?_;refine bG rfl rfl rfl (aK rfl) ⟨rfl,trivial⟩ ?_;refine bG rfl rfl rfl (aK rfl) ⟨rfl,trivial⟩ ?_;refine bG rfl rfl rfl (aK rfl) ⟨rfl,trivial⟩ ?_;refine bG rfl rfl rfl (aK rfl) ⟨rfl,trivial⟩ ?_;refine ji 1 rfl rfl rfl rfl (cP (t:=.val) rfl nk ew (vm s)) ⟨rfl,rfl,trivial⟩ ?_;refine ji 1 rfl rfl rfl rfl (iv (i:=Int.toNat e.1) (off:=0) rfl ew (λ_=>rfl) rfl (dV (vm s)).2.2 rfl) ⟨rfl,trivial⟩ ?_;refine bG rfl rfl rfl (aK rfl) ⟨rfl,trivial⟩ ?_;refine bG rfl rfl rfl (aK rfl) ⟨rfl,trivial⟩ ?_;refine bG rfl rfl rfl (ay (t:=Ti) rfl fD bJ O) ⟨rfl,rfl,trivial⟩ ?_;refine bG rfl rfl rfl (ak (t:=Ti) rfl bJ rfl) ⟨rfl,trivial⟩ ?_;refine bG rfl rfl rfl (aR (t:=Ti) [(.tmp 37,_)] [u] rfl rfl cH (.cons rfl .int .nil) rfl rfl) ⟨rfl,trivial⟩ ?_;refine LJ 0 rfl (λv=>[.sl v 3 Ti (x++[u])]) (λ_=>rfl) rfl rfl rfl (bi rfl rfl cH (ap X)) ⟨rfl,rfl,trivial⟩ ?_;refine uQ 12 [true,true,true,true,true,true,true,true,true,true,true,true] [40] [] [] rfl (by kernel_rfl) (by kernel_rfl) (by kernel_rfl) bY (λvs hv hB=>?_);obtain⟨w0,XT,rfl,XC⟩:=aF hv;obtain⟨w1,XS,rfl,XB⟩:=aF XC;obtain⟨w2,XR,rfl,XA⟩:=aF XB;obtain⟨w3,XQ,rfl,Xz⟩:=aF XA;obtain⟨w4,XP,rfl,Xy⟩:=aF Xz;obtain⟨w5,XO,rfl,Xx⟩:=aF Xy;obtain⟨w6,XN,rfl,Xw⟩:=aF Xx;obtain⟨w7,XM,rfl,Xv⟩:=aF Xw;obtain⟨w8,XL,rfl,zz⟩:=aF Xv;obtain⟨w9,XJ,rfl,J⟩:=aF zz;obtain⟨XK,XI,rfl,E⟩:=aF J;obtain⟨l,XH,rfl,D⟩:=aF E;obtain rfl:=qK D;refine⟨[0,1,2],[.sl z8.1 28 .val (py z8.2 0 y7.2.2.2.2),.obj c 61 (.agg (.pair (.rep Tl e.2.1) (.pair (I e.2.2.1) (.eq (.int .u64 e.2.2.2))))),.sl l 3 Ti (x++[u])],by kernel_rfl,by decide,?_⟩;refine xt rfl rfl rfl rfl (cP (t:=.val) rfl nk ew (vm s)) ⟨rfl,rfl,trivial⟩ (by kernel_rfl) ?_;refine tI 2 rfl ?_;refine RU λo18=>?_;refine tI 1 rfl ?_;refine sH rfl rfl (iK (i:=Int.toNat e.1) rfl ew rfl (oR (vm s)) rfl (.val o18) o18) ⟨rfl,rfl,trivial⟩ (by kernel_rfl) ?_;refine xu ?_;refine bv (SE.fin (Γ':=[(0,Pt c),(5,.eq z8.1),(6,.rep Tl r4.1),(7,I y7.2.2.2.1)]) (Δ':=[.sl z8.1 28 .val (List.set (py z8.2 0 y7.2.2.2.2) (Int.toNat e.1) l),.sl l 3 Ti (x++[u]),.obj c 61 (.agg (.pair (.rep Tl e.2.1) (.pair (I e.2.2.1) (.eq (.int .u64 e.2.2.2)))))]) [0,1,2] ⟨rfl,rfl,rfl,rfl,trivial⟩ rfl) ?_;exact λa w st=>⟨rfl,(l),(SE.fin (Γ':=[(0,Pt c),(5,.eq z8.1),(6,.rep Tl r4.1),(7,I y7.2.2.2.1)]) (Δ':=[.sl z8.1 28 .val (List.set (py z8.2 0 y7.2.2.2.2) (Int.toNat e.1) l),.sl l 3 Ti (x++[u]),.obj c 61 (.agg (.pair (.rep Tl e.2.1) (.pair (I e.2.2.1) (.eq (.int .u64 e.2.2.2)))))]) [0,1,2] ⟨rfl,rfl,rfl,rfl,trivial⟩ rfl) a w st⟩
     .show JN _ _ [(0,Pt c),(5,.eq z8.1),(6,.rep Tl r4.1),(7,I y7.2.2.2.1)] ([.sl z8.1 28 .val (List.set (py z8.2 0 y7.2.2.2.2) (Int.toNat e.1) l),.sl l 3 Ti (x++[u]),.obj c 61 (.agg (.pair (.rep Tl e.2.1) (.pair (I e.2.2.1) (.eq (.int .u64 e.2.2.2)))))]++(pm z8.2 0 y7.2.2.2.2).eraseIdx (Int.toNat e.1));refine bH 1 rfl ?_;refine bv (E2 (pre:=[.obj c 61 (.agg (.pair (.rep Tl e.2.1) (.pair (I e.2.2.1) (.eq (.int .u64 e.2.2.2)))))]) (z:=z8) (i:=Int.toNat e.1) (FV s).2) ?_;refine bn ?_;exact xy ((z8.1,D5 z8.2 (Int.toNat e.1) l),(e.2.1,e.2.2.1,e.2.2.2,List.set y7.2.2.2.2 (Int.toNat e.1) (x++[u]))) h (l6 [.obj c 61 (.agg (.pair (.rep Tl e.2.1) (.pair (I e.2.2.1) (.eq (.int .u64 e.2.2.2)))))] (zQ 28 (z8.1,D5 z8.2 (Int.toNat e.1) l) (List.set y7.2.2.2.2 (Int.toNat e.1) (x++[u]))) [0] ⟨rfl,rfl,rfl,rfl,trivial⟩ rfl)
   .refine ae (mq ?_);obtain⟨mw,M,h⟩:=aa h;refine jb (bh rfl M) ?_;refine aq (nl ?_);exact xy (y,(x9.1,x9.2.1,x9.2.2.1,mw,x9.2.2.2)) h (l6 [.obj c 61 (.agg (.pair (.rep Tl x9.1) (.pair (I x9.2.1) (.eq (.int .u64 x9.2.2.1)))))] (zQ 28 y x9.2.2.2) [0] ⟨rfl,rfl,rfl,rfl,trivial⟩ rfl)
  .refine xa ?_;exact xy (z8,(y7.1,y7.2.1,y7.2.2.1,y7.2.2.2.2)) h (l6 [.obj c 61 (.agg (.pair (.rep Tl y7.1) (.pair (I y7.2.1) (.eq (.int .u64 y7.2.2.1)))))] (zQ 28 z8 y7.2.2.2.2) [0] ⟨rfl,trivial⟩ rfl)
 .
  refine sr (mq ?_);refine aq (nt (aD ?_));refine bv (Lm (pre:=[.obj c 61 (.agg (.pair (.rep Tl x5.1) (.pair (I x5.2.1) (.eq (.int .u64 x5.2.2.1)))))])) ?_;refine bv (fy [4,5,41] ⟨rfl,rfl,rfl,trivial⟩) ?_;cases h;exact aV () [_] 1 ⟨rfl,trivial⟩ rfl
def gz(k:Nat)(r2:Int×bL):Nat->((List Int)×Int×Int×(List (List (List Int)))×Int)->Option ((List (List (List Int)))×(List Int)×Int×Int)
 |0,_=>none
 |n+1,c=>
  if 0 < c.2.2.2.2 then(((((if 0 < (c.2.2.2.1.length:Int) then((fg k (c.1,c.2.1,c.2.2.1) 3).bind λl=>
  some (l.2.1,l.2.2.1,l.2.2.2,l.1)) else(some (c.1,c.2.1,c.2.2.1,false))):Option ((List Int)×Int×Int×Bool)).bind λe=>
  if e.2.2.2=true then((ck ((c.2.2.2.1.length:Int) - 1)).bind λx=>
  (aH c.2.2.2.1 x).bind λu=>
  (iw k u).bind λr=>
  (bV (bb (length c.2.2.2.1+length [r]))).bind λ_=>
  some (e.1,e.2.1,e.2.2.1,c.2.2.2.1++[r])) else((lq k (e.1,e.2.1,e.2.2.1) r2.1).bind λh=>
  (bV (bb (length c.2.2.2.1+length [h.1]))).bind λ_=>
  some (h.2.1,h.2.2.1,h.2.2.2,c.2.2.2.1++[h.1]))):Option ((List Int)×Int×Int×(List (List (List Int))))).bind λj=>
  (ck (c.2.2.2.2 - 1)).bind λs=>
  gz k r2 n (j.1,j.2.1,j.2.2.1,j.2.2.2,s)) else(some (c.2.2.2.1,c.1,c.2.1,c.2.2.1))
def lr(k:Nat)(a0:bL)(a1:Int)(a2:Int):Option (ab×bL):=
 (gX k (a0.1,a0.2.1,a0.2.2) 1 a1).bind λr2=>
 (cD k (r2.2.1,r2.2.2.1,r2.2.2.2) 3).bind λr3=>
 (iS k (r3.2.1,r3.2.2.1,r3.2.2.2) [0,1,1,2,r3.1]).bind λr4=>
 (cD k (r4.2.1,r4.2.2.1,r4.2.2.2) 3).bind λr5=>
 (iS k (r5.2.1,r5.2.2.1,r5.2.2.2) [0,1,2,r5.1]).bind λr6=>
 (gX k (r6.2.1,r6.2.2.1,r6.2.2.2) 1 3).bind λr7=>
 (iS k (r7.2.1,r7.2.2.1,r7.2.2.2) [1,2,r7.1]).bind λr8=>
 (((gX k (r8.2.1,r8.2.2.1,r8.2.2.2) 1 a2).bind λe=>
 gz k r2 k (e.2.1,e.2.2.1,e.2.2.2,([]:(List (List (List Int)))),e.1)):Option ((List (List (List Int)))×(List Int)×Int×Int)).bind λc=>
 some ((r2.1,r4.1,r6.1,r8.1,c.1,[]),(c.2.1,c.2.2.1,c.2.2.2))
theorem wL(k:Nat)(a0:bL)(c:Nat)(a1:Int)(a2:Int)(r:ab×bL)(h:lr k a0 a1 a2=some r):
 cX Tryz.prog 64 [Pt c,I a1,I a2] [.obj c 61 (.agg (.pair (.rep Tl a0.1) (.pair (I a0.2.1) (.eq (.int .u64 a0.2.2)))))] (λ_:Unit=>(bz [.agg (.pair (I r.1.1) (.pair (I r.1.2.1) (.pair (I r.1.2.2.1) (.pair (I r.1.2.2.2.1) (.pair (.rep (.slice (.slice Tl)) r.1.2.2.2.2.1) (.eq (.slice none 0 0)))))))],[.obj c 61 (.agg (.pair (.rep Tl r.2.1) (.pair (I r.2.2.1) (.eq (.int .u64 r.2.2.2)))))])):=by
 unfold lr at h
 replace h:=aW h
 refine cX.of 67 Tryz.func64 rfl Tryz.ntmps64 rfl λS w0=>?_
 refine sr ?_
 refine bf rfl rfl rfl (bA rfl u7 yj) trivial λb1=>?_
 refine nt ?_
 refine sr ?_
 iterate 2 refine mq ?_
 obtain⟨r2,XH,h⟩:=aa h
 have XO:=ku k (a0.1,a0.2.1,a0.2.2) c 1 a1 r2 XH
 refine fr 1 ?_
 refine kc (au [.tmp 10,.const (.int .i64 (1)),.tmp 11] rfl rfl Oc rfl XO) ?_
 iterate 2 refine mq ?_
 obtain⟨r3,XG,h⟩:=aa h
 have XN:=cI k (r2.2.1,r2.2.2.1,r2.2.2.2) c 3 r3 XG
 refine kb (au [.tmp 14,.const (.int .i64 (3))] rfl rfl wU rfl XN) ?_
 refine cF rfl (aR (t:=Ti) [(.const (.int .i64 (0)),_),(.const (.int .i64 (1)),_),(.const (.int .i64 (1)),_),(.const (.int .i64 (2)),_),(.tmp 15,_)] [0,1,1,2,r3.1] rfl rfl cH (.cons rfl .int (.cons rfl .int (.cons rfl .int (.cons rfl .int (.cons rfl .int .nil))))) rfl rfl) ⟨rfl,rfl,rfl,rfl,rfl,trivial⟩ ?_
 obtain⟨r4,XF,h⟩:=aa h
 have XM:=mR k (r3.2.1,r3.2.2.1,r3.2.2.2) c [0,1,1,2,r3.1] r4 XF
 refine kb (au [.tmp 13,.tmp 16] rfl rfl Rh rfl XM) ?_
 iterate 2 refine mq ?_
 obtain⟨r5,XE,h⟩:=aa h
 have XL:=cI k (r4.2.1,r4.2.2.1,r4.2.2.2) c 3 r5 XE
 refine kb (au [.tmp 19,.const (.int .i64 (3))] rfl rfl wU rfl XL) ?_
 refine cF rfl (aR (t:=Ti) [(.const (.int .i64 (0)),_),(.const (.int .i64 (1)),_),(.const (.int .i64 (2)),_),(.tmp 20,_)] [0,1,2,r5.1] rfl rfl cH (.cons rfl .int (.cons rfl .int (.cons rfl .int (.cons rfl .int .nil)))) rfl rfl) ⟨rfl,rfl,rfl,rfl,trivial⟩ ?_
 obtain⟨r6,XD,h⟩:=aa h
 have XK:=mR k (r5.2.1,r5.2.2.1,r5.2.2.2) c [0,1,2,r5.1] r6 XD
 refine kb (au [.tmp 18,.tmp 21] rfl rfl Rh rfl XK) ?_
 iterate 2 refine mq ?_
 obtain⟨r7,XC,h⟩:=aa h
 have XJ:=ku k (r6.2.1,r6.2.2.1,r6.2.2.2) c 1 3 r7 XC
 refine kc (au [.tmp 24,.const (.int .i64 (1)),.const (.int .i64 (3))] rfl rfl Oc rfl XJ) ?_
 refine jc (aR (t:=Ti) [(.const (.int .i64 (1)),_),(.const (.int .i64 (2)),_),(.tmp 25,_)] [1,2,r7.1] rfl rfl cH (.cons rfl .int (.cons rfl .int (.cons rfl .int .nil))) rfl rfl) ?_
 obtain⟨r8,XB,h⟩:=aa h
 have XI:=mR k (r7.2.1,r7.2.2.1,r7.2.2.2) c [1,2,r7.1] r8 XB
 refine kb (au [.tmp 23,.tmp 26] rfl rfl Rh rfl XI) ?_
 refine cF rfl (eX [(0,.tmp 12,_),(1,.tmp 17,_),(2,.tmp 22,_),(3,.tmp 27,_)] rfl To u7 PZ (kZ ⟨rfl,rfl,rfl,rfl,trivial⟩) rfl) ⟨rfl,rfl,rfl,rfl,trivial⟩ ?_
 refine bf rfl rfl rfl (bA rfl u7 yj) trivial λb9=>?_
 refine aS rfl rfl (aN rfl cY trivial rfl rfl) ⟨rfl,rfl,trivial⟩ ?_
 refine nt ?_
 refine aC (Z:=Value) (α:=(List (List (List Int)))×(List Int)×Int×Int) (λJ y=>[(6,Pt b1),(7,Pt b9)]) (λJ y=>[.obj b1 25 (.agg (.pair (I 0) (.pair (I 0) (.pair (I 0) (.pair (I 0) (.pair (.eq (.slice none 0 0)) (.eq (.slice none 0 0)))))))),.obj b9 25 (.agg (.pair (I r2.1) (.pair (I r4.1) (.pair (I r6.1) (.pair (I r8.1) (.pair (.eq J) (.eq (.slice none 0 0)))))))),.sl J 36 (.slice Tl) y.1,.obj c 61 (.agg (.pair (.rep Tl y.2.1) (.pair (I y.2.2.1) (.eq (.int .u64 y.2.2.2)))))]) h (λK h=>?_) (λJ y h=>?_)
 .
  refine sr ?_;iterate 2 refine mq ?_
  obtain⟨F,Xv,h⟩:=aa h;refine fr 1 ?_;refine kc (au [.tmp 29,.const (.int .i64 (1)),.tmp 30] rfl rfl Oc rfl (ku k (r8.2.1,r8.2.2.1,r8.2.2.2) c 1 a2 F Xv)) ?_;refine aq (nt (ah ?_));refine gi (SE.nil 36 (.slice Tl)) ?_;refine aE (λu e=>[(0,Pt c),(6,Pt b1),(7,Pt b9),(8,I e.2.2.2.2)]) (λu e=>[.obj c 61 (.agg (.pair (.rep Tl e.1) (.pair (I e.2.1) (.eq (.int .u64 e.2.2.1))))),.obj b1 25 (.agg (.pair (I 0) (.pair (I 0) (.pair (I 0) (.pair (I 0) (.pair (.eq (.slice none 0 0)) (.eq (.slice none 0 0)))))))),.obj b9 25 (.agg (.pair (I r2.1) (.pair (I r4.1) (.pair (I r6.1) (.pair (I r8.1) (.pair (.eq u) (.eq (.slice none 0 0)))))))),.sl u 36 (.slice Tl) e.2.2.2.1]) (gz k r2) k (.slice none 0 0) (F.2.1,F.2.2.1,F.2.2.2,([]:(List (List (List Int)))),F.1) (λ_=>rfl) h (SE.fin [1,3,2,0] ⟨rfl,rfl,rfl,rfl,trivial⟩ rfl) (λn u e h=>?_);unfold gz at h;refine ai (sr (mq ?_));refine jb (iM rfl) ?_;refine nt (ci h (λh=>?_) (λh=>?_))
  .refine sk (aC (Z:=Value) (α:=(List Int)×Int×Int×(List (List (List Int)))) (λD l=>[(0,Pt c),(6,Pt b1),(7,Pt b9),(8,I e.2.2.2.2)]) (λD l=>[.obj c 61 (.agg (.pair (.rep Tl l.1) (.pair (I l.2.1) (.eq (.int .u64 l.2.2.1))))),.obj b1 25 (.agg (.pair (I 0) (.pair (I 0) (.pair (I 0) (.pair (I 0) (.pair (.eq (.slice none 0 0)) (.eq (.slice none 0 0)))))))),.obj b9 25 (.agg (.pair (I r2.1) (.pair (I r4.1) (.pair (I r6.1) (.pair (I r8.1) (.pair (.eq D) (.eq (.slice none 0 0)))))))),.sl D 36 (.slice Tl) l.2.2.2]) h (λK h=>?_) (λD l h=>?_))
   .refine ah (ai (sr (fl bW ?_)));refine fr 2 ?_;refine lo fq ?_;refine fr 3 ?_;refine ka (oh rfl rfl pq) ?_;refine aq (nt ?_);refine aC (Z:=Unit) (α:=(List Int)×Int×Int×Bool) (λQ j=>[(0,Pt c),(6,Pt b1),(7,Pt b9),(8,I e.2.2.2.2),(9,I (e.2.2.2.1.length:Int)),(44,.eq (.bool j.2.2.2))]) (λQ j=>[.obj c 61 (.agg (.pair (.rep Tl j.1) (.pair (I j.2.1) (.eq (.int .u64 j.2.2.1))))),.obj b1 25 (.agg (.pair (I 0) (.pair (I 0) (.pair (I 0) (.pair (I 0) (.pair (.eq (.slice none 0 0)) (.eq (.slice none 0 0)))))))),.obj b9 25 (.agg (.pair (I r2.1) (.pair (I r4.1) (.pair (I r6.1) (.pair (I r8.1) (.pair (.eq u) (.eq (.slice none 0 0)))))))),.sl u 36 (.slice Tl) e.2.2.2.1]) h (λK h=>?_) (λQ j h=>?_)
    .refine ae (mq ?_);refine jb (iM rfl) ?_;refine mq ?_;refine bU (s:=41) rfl (λhb=>?_) (λhb=>?_)
     .replace h:=dO (uE hb) h;refine gm ?_;obtain⟨E,zz,h⟩:=aa h;refine fr 2 ?_;refine fe rfl rfl rfl rfl rfl rfl (au [.tmp 42,.const (.int .i64 (3))] rfl rfl Oi rfl (i7 k (e.1,e.2.1,e.2.2.1) c 3 E zz)) ⟨rfl,rfl,trivial⟩ ?_;refine pt (nl ?_);exact jz ((),(E.2.1,E.2.2.1,E.2.2.2,E.1)) h [0,3,2,1]
     .replace h:=bZ (uF hb) h;iterate 2 refine gn ?_
      refine pf (nl ?_);exact jz ((),(e.1,e.2.1,e.2.2.1,false)) h [2,3,1,0]
    .refine cv h (λh=>?_) (λh=>?_)
     .refine ai (bu ?_);refine da (av rfl bW) ?_;refine ea 2 (ao rfl fq jQ rfl) ?_;refine da (av rfl bW) ?_;refine ea 2 (ao rfl fq jQ rfl) ?_;refine dm ?_;obtain⟨Xy,X,h⟩:=aa h;refine db (dR rfl X) ?_;obtain⟨Xx,M,h⟩:=aa h;refine eb 3 (cP (t:=(.slice Tl)) rfl pq kB M) ?_;refine ea 3 (iv (i:=Int.toNat Xy) (off:=0) rfl kB (λ_=>rfl) rfl (dV M).2.2 rfl) ?_;obtain⟨O,qt,h⟩:=aa h;refine da (tG (au [.tmp 52] rfl rfl Ro rfl (kL k Xx O qt))) ?_;refine da (aR (t:=(.slice Tl)) [(.tmp 53,_)] [O] rfl rfl vW (.cons rfl .rep .nil) rfl rfl) ?_;refine df bY ?_;obtain⟨XQ,mc,h⟩:=aa h;refine fr 3 ?_;refine cz rfl rfl rfl (bi rfl rfl vW (ap mc)) ⟨rfl,rfl,trivial⟩ λXA=>?_;refine fl bW ?_;refine m9 λo25=>?_;refine fr 3 ?_;refine aS rfl rfl (aN rfl fq o25 rfl rfl) ⟨rfl,rfl,trivial⟩ ?_;refine nt (f9 (bO (c9 (ax ?_))));exact jz (XA,(j.1,j.2.1,j.2.2.1,e.2.2.2.1++[O])) h [2,3,0,1]
     .refine sk (bu ?_);refine da (av rfl bW) ?_;refine ea 2 (ao rfl fq jQ rfl) ?_;refine dm ?_;refine da (av rfl fx) ?_;refine ea 2 (ao rfl bJ jQ rfl) ?_;obtain⟨x,mw,h⟩:=aa h;refine GT 0 rfl rfl rfl rfl (au [.tmp 59,.tmp 61] rfl rfl V6 rfl (wJ k (j.1,j.2.1,j.2.2.1) c r2.1 x mw)) ⟨rfl,rfl,trivial⟩ ?_;refine da (aR (t:=(.slice Tl)) [(.tmp 62,_)] [x.1] rfl rfl vW (.cons rfl .rep .nil) rfl rfl) ?_;refine GU (Δ':=[.obj b1 25 (.agg (.pair (I 0) (.pair (I 0) (.pair (I 0) (.pair (I 0) (.pair (.eq (.slice none 0 0)) (.eq (.slice none 0 0)))))))),.obj b9 25 (.agg (.pair (I r2.1) (.pair (I r4.1) (.pair (I r6.1) (.pair (I r8.1) (.pair (.eq u) (.eq (.slice none 0 0)))))))),.sl u 36 (.slice Tl) e.2.2.2.1,.obj c 61 (.agg (.pair (.rep Tl x.2.1) (.pair (I x.2.2.1) (.eq (.int .u64 x.2.2.2)))))]) (by kernel_rfl) bY (by kernel_rfl) ?_;obtain⟨XP,Y,h⟩:=aa h;refine fr 2 ?_;refine cz rfl rfl rfl (bi rfl rfl vW (ap Y)) ⟨rfl,rfl,trivial⟩ λXz=>?_;refine fl bW ?_;refine m9 λo29=>?_;refine fr 2 ?_;refine aS rfl rfl (aN rfl fq o29 rfl rfl) ⟨rfl,rfl,trivial⟩ ?_;refine aG (bn ?_);exact jz (Xz,(x.2.1,x.2.2.1,x.2.2.2,e.2.2.2.1++[x.1])) h [3,2,0,1]
   .refine ae (mq ?_);obtain⟨Xw,U,h⟩:=aa h;refine jb (dR rfl U) ?_;refine aq (nl ?_);exact jz (D,(l.1,l.2.1,l.2.2.1,l.2.2.2,Xw)) h [0,1,2,3]
  .refine xa ?_;exact jz (u,(e.2.2.2.1,e.1,e.2.1,e.2.2.1)) h [1,2,3,0]
 .
  refine sr (fr 1 ?_);refine fr 2 ?_;refine eQ (iU (off:=4) [] trivial rfl rfl) ?_;refine lo cY ?_;refine fr 1 ?_;refine aS rfl rfl (aN rfl cY trivial rfl rfl) ⟨rfl,rfl,trivial⟩ ?_;refine nt (aD (bv (SE.fin (Γ':=[(6,_)]) [2,0,1] ⟨rfl,trivial⟩ rfl) ?_));cases h;exact aV () [.agg (.pair (I r2.1) (.pair (I r4.1) (.pair (I r6.1) (.pair (I r8.1) (.pair (.rep (.slice (.slice Tl)) y.1) (.eq (.slice none 0 0)))))))] 1 ⟨⟨_,_,_,_,_,rfl,(.tail _ (.head _)),cY,(oM),rfl⟩,trivial⟩ rfl
def fp(k:Nat)(r2:ab×bL):Nat->((List Int)×Int×Int×(List aQ)×Int)->Option ((List aQ)×(List Int)×Int×Int)
 |0,_=>none
 |n+1,y7=>
  if 0 < y7.2.2.2.2 then((jr k (y7.1,y7.2.1,y7.2.2.1) (r2.1.1,r2.1.2.1,r2.1.2.2.1,r2.1.2.2.2.1,r2.1.2.2.2.2.1,())).bind λr9=>
  (bV (bb (length y7.2.2.2.1+length [r9.1]))).bind λ_=>
  (ck (y7.2.2.2.2 - 1)).bind λc=>
  fp k r2 n (r9.2.1,r9.2.2.1,r9.2.2.2,y7.2.2.2.1++[r9.1],c)) else(some (y7.2.2.2.1,y7.1,y7.2.1,y7.2.2.1))
def jq(k:Nat)(a0:bL)(a1:Int)(a2:Int):Option (ab×bL):=
 (lr k (a0.1,a0.2.1,a0.2.2) a1 a2).bind λr2=>
 (((cD k (r2.2.1,r2.2.2.1,r2.2.2.2) 4).bind λr6=>
 fp k r2 k (r6.2.1,r6.2.2.1,r6.2.2.2,([]:(List aQ)),r6.1)):Option ((List aQ)×(List Int)×Int×Int)).bind λx4=>
 some ((r2.1.1,r2.1.2.1,r2.1.2.2.1,r2.1.2.2.2.1,r2.1.2.2.2.2.1,x4.1),(x4.2.1,x4.2.2.1,x4.2.2.2))
theorem uo(k:Nat)(a0:bL)(c:Nat)(a1:Int)(a2:Int)(r:ab×bL)(h:jq k a0 a1 a2=some r):
 cX Tryz.prog 27 [Pt c,I a1,I a2] [.obj c 61 (.agg (.pair (.rep Tl a0.1) (.pair (I a0.2.1) (.eq (.int .u64 a0.2.2)))))] (λ_:Unit=>(bz [.rep am r.1],[.obj c 61 (.agg (.pair (.rep Tl r.2.1) (.pair (I r.2.2.1) (.eq (.int .u64 r.2.2.2)))))])):=by
 unfold jq at h
 replace h:=aW h
 refine cX.of 28 Tryz.func27 rfl Tryz.ntmps27 rfl λS w0=>?_
 refine sr ?_
 refine bf rfl rfl rfl (bA rfl u7 yj) trivial λb1=>?_
 refine nt ?_
 refine sr ?_
 iterate 3 refine mq ?_
 obtain⟨r2,D,h⟩:=aa h
 have E:=wL k (a0.1,a0.2.1,a0.2.2) c a1 a2 r2 D
 refine fr 1 ?_
 refine kc (au [.tmp 9,.tmp 10,.tmp 11] rfl rfl Wm rfl E) ?_
 refine bf rfl rfl rfl (bA rfl u7 yj) trivial λb3=>?_
 refine aS rfl rfl (aN rfl cY trivial rfl rfl) ⟨rfl,rfl,trivial⟩ ?_
 refine nt ?_
 refine aC (Z:=Value) (α:=(List aQ)×(List Int)×Int×Int) (λz5 x4=>[(6,Pt b1),(7,Pt b3)]) (λz5 x4=>[.obj b1 25 (.agg (.pair (I 0) (.pair (I 0) (.pair (I 0) (.pair (I 0) (.pair (.eq (.slice none 0 0)) (.eq (.slice none 0 0)))))))),.obj b3 25 (.agg (.pair (I r2.1.1) (.pair (I r2.1.2.1) (.pair (I r2.1.2.2.1) (.pair (I r2.1.2.2.2.1) (.pair (.rep (.slice (.slice Tl)) r2.1.2.2.2.2.1) (.eq z5))))))),.sl z5 27 aL x4.1,.obj c 61 (.agg (.pair (.rep Tl x4.2.1) (.pair (I x4.2.2.1) (.eq (.int .u64 x4.2.2.2)))))]) h (λK h=>?_) (λz5 x4 h=>?_)
 .
  refine sr (mq ?_);obtain⟨r6,y,h⟩:=aa h;refine fr 1 ?_;refine kb (au [.tmp 13,.const (.int .i64 (4))] rfl rfl wU rfl (cI k (r2.2.1,r2.2.2.1,r2.2.2.2) c 4 r6 y)) ?_;refine aq (nt (ah ?_));refine gi (SE.nil 27 aL) ?_;refine aE (λz8 y7=>[(0,Pt c),(6,Pt b1),(7,Pt b3),(8,I y7.2.2.2.2)]) (λz8 y7=>[.obj c 61 (.agg (.pair (.rep Tl y7.1) (.pair (I y7.2.1) (.eq (.int .u64 y7.2.2.1))))),.obj b1 25 (.agg (.pair (I 0) (.pair (I 0) (.pair (I 0) (.pair (I 0) (.pair (.eq (.slice none 0 0)) (.eq (.slice none 0 0)))))))),.obj b3 25 (.agg (.pair (I r2.1.1) (.pair (I r2.1.2.1) (.pair (I r2.1.2.2.1) (.pair (I r2.1.2.2.2.1) (.pair (.rep (.slice (.slice Tl)) r2.1.2.2.2.2.1) (.eq z8))))))),.sl z8 27 aL y7.2.2.2.1]) (fp k r2) k (.slice none 0 0) (r6.2.1,r6.2.2.1,r6.2.2.2,([]:(List aQ)),r6.1) (λ_=>rfl) h (SE.fin [1,3,2,0] ⟨rfl,rfl,rfl,rfl,trivial⟩ rfl) (λn z8 y7 h=>?_);unfold fp at h;refine ai (sr (mq ?_));refine jb (iM rfl) ?_;refine nt (ci h (λh=>?_) (λh=>?_))
  .refine sk (ai (ah (bu ?_)));refine da (av rfl fH) ?_;refine ea 2 (ao rfl nh jQ rfl) ?_;refine dm ?_;refine ea 2 (ao rfl cY (oM) rfl) ?_;obtain⟨r9,u,h⟩:=aa h;refine GT 0 rfl rfl rfl rfl (bX (N:=[(.tmp 21,Pt c),(.tmp 22,.agg (.pair (I r2.1.1) (.pair (I r2.1.2.1) (.pair (I r2.1.2.2.1) (.pair (I r2.1.2.2.2.1) (.pair (.rep (.slice (.slice Tl)) r2.1.2.2.2.2.1) (.eq z8)))))))]) (au [.tmp 21,.tmp 22] rfl rfl Wj rfl (uq k (y7.1,y7.2.1,y7.2.2.1) c (r2.1.1,r2.1.2.1,r2.1.2.2.1,r2.1.2.2.2.1,r2.1.2.2.2.2.1,()) r9 u)) λ_ _ _ hn=>⟨hn.1,(ON (t:=(.pair Ti (.pair Ti (.pair Ti (.pair Ti (.pair (.slice (.slice Tl)) .ign)))))) (x:=(r2.1.1,r2.1.2.1,r2.1.2.2.1,r2.1.2.2.2.1,r2.1.2.2.2.2.1,())) (qy (kA .int) (qy (kA .int) (qy (kA .int) (qy (kA .int) (qy (kA .rep) Pj))))) hn.2.1),trivial⟩) ⟨rfl,rfl,trivial⟩ ?_;refine da (aR (t:=aL) [(.tmp 23,_)] [r9.1] rfl rfl xR (.cons rfl .rep .nil) rfl rfl) ?_;refine GU (Δ':=[.obj b1 25 (.agg (.pair (I 0) (.pair (I 0) (.pair (I 0) (.pair (I 0) (.pair (.eq (.slice none 0 0)) (.eq (.slice none 0 0)))))))),.obj b3 25 (.agg (.pair (I r2.1.1) (.pair (I r2.1.2.1) (.pair (I r2.1.2.2.1) (.pair (I r2.1.2.2.2.1) (.pair (.rep (.slice (.slice Tl)) r2.1.2.2.2.2.1) (.eq z8))))))),.sl z8 27 aL y7.2.2.2.1,.obj c 61 (.agg (.pair (.rep Tl r9.2.1) (.pair (I r9.2.2.1) (.eq (.int .u64 r9.2.2.2)))))]) (by kernel_rfl) bY (by kernel_rfl) ?_;obtain⟨F,j,h⟩:=aa h;refine fr 2 ?_;refine cz rfl rfl rfl (bi rfl rfl xR (ap j)) ⟨rfl,rfl,trivial⟩ λs=>?_;refine fl fH ?_;refine m9 λo12=>?_;refine fr 2 ?_;refine aS rfl rfl (aN rfl nh o12 rfl rfl) ⟨rfl,rfl,trivial⟩ ?_;refine aG (aI (tn (ae (mq ?_))));obtain⟨l,e,h⟩:=aa h;refine jb (dR rfl e) ?_;refine aq (nl ?_);exact jz (s,(r9.2.1,r9.2.2.1,r9.2.2.2,y7.2.2.2.1++[r9.1],l)) h [3,2,0,1]
  .refine xa ?_;exact jz (z8,(y7.2.2.2.1,y7.1,y7.2.1,y7.2.2.1)) h [1,2,3,0]
 .
  refine sr (fr 1 ?_);refine fr 2 ?_;refine eQ (iU (off:=5) [] trivial rfl rfl) ?_;refine lo cY ?_;refine fr 1 ?_;refine aS rfl rfl (aN rfl cY trivial rfl rfl) ⟨rfl,rfl,trivial⟩ ?_;refine nt (aD (bv (ie (a:=.agg (.pair (I r2.1.1) (.pair (I r2.1.2.1) (.pair (I r2.1.2.2.1) (.pair (I r2.1.2.2.2.1) (.pair (.rep (.slice (.slice Tl)) r2.1.2.2.2.2.1) (Rs aL x4.1))))))) (a':=.rep am (r2.1.1,r2.1.2.1,r2.1.2.2.1,r2.1.2.2.2.1,r2.1.2.2.2.2.1,x4.1)) (kA (.agg (.pair .int (.pair .int (.pair .int (.pair .int (.pair .rep .rep)))))))) ?_));refine bv (SE.fin (Γ':=[(6,_)]) [2,0,1] ⟨rfl,trivial⟩ rfl) ?_;cases h;exact aV () [.rep am (r2.1.1,r2.1.2.1,r2.1.2.2.1,r2.1.2.2.2.1,r2.1.2.2.2.2.1,x4.1)] 1 ⟨⟨_,_,_,_,_,rfl,(.tail _ (.head _)),cY,(oM),rfl⟩,trivial⟩ rfl
def jS(k:Nat)(a0:ab)(a1:aQ)(a2:bL):Option ((List ab)×bL):=
 (jq k (a2.1,a2.2.1,a2.2.2) 4 4).bind λr3=>
 (fh k r3.1).bind λr5=>
 (bV (bb (length r5.2.2.2.2.2+length [a1]))).bind λ_=>
 some ([a0,r3.1,(r5.1,r5.2.1,r5.2.2.1,r5.2.2.2.1,r5.2.2.2.2.1,r5.2.2.2.2.2++[a1])],(r3.2.1,r3.2.2.1,r3.2.2.2))
theorem wI(k:Nat)(a0:ab)(a1:aQ)(a2:bL)(c:Nat)(r:(List ab)×bL)(h:jS k a0 a1 a2=some r):
 cX Tryz.prog 8 [.rep am a0,.rep aL a1,Pt c] [.obj c 61 (.agg (.pair (.rep Tl a2.1) (.pair (I a2.2.1) (.eq (.int .u64 a2.2.2)))))] (λ_:Unit=>(bz [Rs am r.1],[.obj c 61 (.agg (.pair (.rep Tl r.2.1) (.pair (I r.2.2.1) (.eq (.int .u64 r.2.2.2)))))])):=by
 unfold jS at h
 replace h:=aW h
 refine cX.of 23 Tryz.func8 rfl Tryz.ntmps8 rfl λS w0=>?_
 refine sr ?_
 refine bx λb1=>?_
 refine bx λb2=>?_
 refine cq ?_
 refine nt ?_
 refine sr ?_
 refine mq ?_
 obtain⟨r3,l,h⟩:=aa h
 have s:=uo k (a2.1,a2.2.1,a2.2.2) c 4 4 r3 l
 refine fr 2 ?_
 refine kc (au [.tmp 9,.const (.int .i64 (4)),.const (.int .i64 (4))] rfl rfl WB rfl s) ?_
 refine bf rfl rfl rfl (bA rfl u7 yj) trivial λb4=>?_
 refine aS rfl rfl (aN rfl cY rfl rfl rfl) ⟨rfl,rfl,trivial⟩ ?_
 refine nt ?_
 refine sr ?_
 refine lo cY ?_
 obtain⟨r5,j,h⟩:=aa h
 have n:=ut k r3.1 r5 j
 refine bf rfl rfl rfl (au [.tmp 11] rfl rfl UG rfl n) ⟨rfl,trivial⟩ λv6=>?_
 refine bf rfl rfl rfl (bA rfl u7 yj) trivial λb7=>?_
 refine aS rfl rfl (aN rfl cY trivial rfl rfl) ⟨rfl,rfl,trivial⟩ ?_
 refine nt ?_
 refine sr ?_
 refine fl fH ?_
 refine lo nh ?_
 refine fr 4 ?_
 refine lo nN ?_
 refine ja (aR (t:=aL) [(.tmp 15,_)] [a1] rfl rfl xR (.cons rfl .rep .nil) rfl rfl) ?_
 obtain⟨u8,e,h⟩:=aa h
 refine fr 2 ?_
 refine cz rfl rfl rfl (bi rfl rfl xR (ap e)) ⟨rfl,rfl,trivial⟩ λv9=>?_
 refine fl fH ?_
 refine m9 λo10=>?_
 refine fr 2 ?_
 refine aS rfl rfl (aN rfl nh o10 rfl rfl) ⟨rfl,rfl,trivial⟩ ?_
 refine nt ?_
 refine sr ?_
 refine fr 5 ?_
 refine lo cY ?_
 refine fr 4 ?_
 refine lo cY ?_
 refine fr 2 ?_
 refine fr 3 ?_
 refine eQ (iU (off:=5) [17] ⟨rfl,trivial⟩ rfl rfl) ?_
 refine lo cY ?_
 refine jc (aR (t:=am) [(.tmp 19,_),(.tmp 20,_),(.tmp 21,_)] [a0,r3.1,(r5.1,r5.2.1,r5.2.2.1,r5.2.2.2.1,r5.2.2.2.2.1,r5.2.2.2.2.2++[a1])] rfl rfl Vu (.cons rfl .rep (.cons rfl .rep (.cons trivial (.agg (.pair .int (.pair .int (.pair .int (.pair .int (.pair .rep .rep)))))) .nil))) rfl rfl) ?_
 refine aq ?_
 refine nt ?_
 refine aD ?_
 refine bv (SE.fin (Γ':=[(6,_)]) [4,0,1,2,3] ⟨rfl,trivial⟩ rfl) ?_
 cases h
 exact aV () [_] 1 ⟨rfl,trivial⟩ rfl
def dT(k:Nat)(r2:(Option ab)×(List Int)×Int):Nat->(Int×Int)->Option Int
 |0,_=>none
 |n+1,y7=>
  if y7.2 < (r2.2.1.length:Int) then((aH r2.2.1 y7.2).bind λx9=>
  (ck (y7.2+1)).bind λc=>
  dT k r2 n (yT .u8 y7.1 x9,c)) else(some y7.1)
def dS(k:Nat)(a1:Int)(q3:ab)(h:(List Int)):Nat->((List Int)×Int)->Option (List Int)
 |0,_=>none
 |n+1,c=>
  if c.2 < (h.length:Int) then((((aH h c.2).bind λe=>
  (fU k 0 e).bind λs=>
  (eU k q3 s a1).bind λr=>
  if 0≤r then((bV (bb (length c.1+length [e]))).bind λ_=>
  some (c.1++[e])) else(some c.1)):Option ((List Int))).bind λl=>
  (ck (c.2+1)).bind λj=>
  dS k a1 q3 h n (l,j)) else(some c.1)
def lm(k:Nat)(a0:ab)(a1:Int):Option ((List Int)×Int):=
 (jR k a0 [a1] ([]:(List Int)) ([]:(List Int))).bind λr2=>
 ib r2.1 (if¬(r2.2.2=0) then(some (([]:(List Int)),r2.2.2)) else(none)) (λq3=>if¬(r2.2.2=0) then(some (([]:(List Int)),r2.2.2)) else(((dT k r2 k (0,0)):Option (Int)).bind λx5=>
 (((fV k x5).bind λe=>
 dS k a1 q3 e k (([]:(List Int)),0)):Option ((List Int))).bind λc=>
 some (c,0)))
theorem wE(k:Nat)(a0:ab)(a1:Int)(r:(List Int)×Int)(h:lm k a0 a1=some r):
 cC (eP Tryz.prog) 13 [.rep am a0,I a1] [] (λ_:Unit=>(bz [.rep Tl r.1,I r.2],[])):=by
 unfold lm at h
 replace h:=aW h
 refine cC.of 55 Tryz.func13 rfl Tryz.ntmps13 rfl λS w0=>?_
 refine sr ?_
 refine bx λb1=>?_
 refine cq ?_
 refine cq ?_
 refine nt ?_
 refine sr ?_
 refine lo cY ?_
 refine mq ?_
 refine ja (aR (t:=Ti) [(.tmp 17,_)] [a1] rfl rfl cH (.cons rfl .int .nil) rfl rfl) ?_
 obtain⟨r2,Xx,h⟩:=aa h
 have y:=lV k a0 [a1] ([]:(List Int)) ([]:(List Int)) r2 Xx
 rcases hr:r2.1 with _ |q3
 .
  rw [hr] at h y;replace h:=xb h;refine aU (Δ:=[]) (F:=_) (λ_ _ _=>aj rfl _) rfl rfl (bX (N:=[(.tmp 16,.rep am a0),(.tmp 18,.rep Tl [a1]),(.const (.slice none 0 0),.eq (.slice none 0 0)),(.const (.slice none 0 0),.eq (.slice none 0 0))]) (bp [.tmp 16,.tmp 18,.const (.slice none 0 0),.const (.slice none 0 0)] rfl rfl CQ rfl y) λ_ _ _ hn=>⟨hn.1,hn.2.1,(aM (t:=Tl) (x:=([]:(List Int))) .nil rfl rfl hn.2.2.1),(aM (t:=Tl) (x:=([]:(List Int))) .nil rfl rfl hn.2.2.2.1),trivial⟩) ⟨rfl,rfl,rfl,rfl,trivial⟩ λ_=>?_;refine mq ?_;refine xr ?_;refine xr ?_;refine xr ?_;refine aq ?_;refine aq ?_;refine aq (nt (ai (sr ?_)));refine mq ?_;refine jb (dZ rfl) ?_;refine nt (cn h (λh=>?_) (λh=>?_))
  .refine sr (mq ?_);refine cq ?_;refine aq (nt (rx ?_));refine bv (dA (t:=Tl) (x:=([]:(List Int))) 4 rfl .nil rfl rfl) ?_;cases h;exact rb
  .cases h
 .
  rw [hr] at h y;replace h:=wZ h;refine aU (Δ:=[]) (F:=_) (λ_ _ _=>aj rfl _) rfl rfl (bX (N:=[(.tmp 16,.rep am a0),(.tmp 18,.rep Tl [a1]),(.const (.slice none 0 0),.eq (.slice none 0 0)),(.const (.slice none 0 0),.eq (.slice none 0 0))]) (bp [.tmp 16,.tmp 18,.const (.slice none 0 0),.const (.slice none 0 0)] rfl rfl CQ rfl y) λ_ _ _ hn=>⟨hn.1,hn.2.1,(aM (t:=Tl) (x:=([]:(List Int))) .nil rfl rfl hn.2.2.1),(aM (t:=Tl) (x:=([]:(List Int))) .nil rfl rfl hn.2.2.2.1),trivial⟩) ⟨rfl,rfl,rfl,rfl,trivial⟩ λz4=>?_;refine mq ?_;refine xr ?_;refine xr ?_;refine xr ?_;refine aq ?_;refine aq ?_;refine aq (nt (ai (sr ?_)));refine mq ?_;refine jb (dZ rfl) ?_;refine nt (cn h (λh=>?_) (λh=>?_))
  .refine sr (mq ?_);refine cq ?_;refine aq (nt (rx ?_));refine bv (dA (t:=Tl) (x:=([]:(List Int))) 4 rfl .nil rfl rfl) ?_;cases h;exact rb
  .refine sk (sr (cq (nt ?_)));refine aC (Z:=Unit) (α:=Int) (λz6 x5=>[(1,I a1),(6,.eq (.pointer (some ⟨z4.1,0,none⟩))),(9,.eq (.int .u8 x5))]) (λz6 x5=>[.obj z4.1 123 (be q3 z4.2),.inv z4.2 (cu k q3)]) h (λK h=>?_) (λz6 x5 h=>?_)
   .refine sr (mq ?_);refine ol AW ?_;refine fF rfl ?_;refine nt (ah (aE (λz8 y7=>[(1,I a1),(6,.eq (.pointer (some ⟨z4.1,0,none⟩))),(9,.eq (.int .u8 y7.1)),(26,.rep (.slice (.int .u8)) r2.2.1),(27,I (r2.2.1.length:Int)),(28,I y7.2)]) (λz8 y7=>[.obj z4.1 123 (be q3 z4.2),.inv z4.2 (cu k q3)]) (dT k r2) k () (0,0) (λ_=>rfl) h (SE.fin [0,1] ⟨rfl,rfl,rfl,rfl,rfl,rfl,trivial⟩ rfl) (λn z8 y7 h=>?_)));unfold dT at h;refine sr (jb (bj rfl) ?_);refine nt (ai (ci h (λh=>?_) (λh=>?_)))
    .refine sk (ai (ah (sr ?_)));obtain⟨x9,Xw,h⟩:=aa h;refine jb (ay (t:=(.int .u8)) rfl AW pA Xw) ?_;refine ja (ak (t:=(.int .u8)) rfl pA rfl) ?_;refine aq (nt (ae ?_));iterate 2 refine mq ?_
     refine jb (TB rfl) ?_;refine aq (aG (aI (tn (ae ?_))));obtain⟨qt,Q,h⟩:=aa h;refine jb (bh rfl Q) ?_;refine mq (nl ?_);exact jz ((),(yT .u8 y7.1 x9,qt)) h [0,1]
    .refine xa ?_;exact jz ((),y7.1) h [0,1]
   .refine sr (cq (nt ?_));refine aC (Z:=Value) (α:=(List Int)) (λs E=>[(12,.eq s)]) (λs E=>[.sl s 3 Ti E,.inv z4.2 (cu k q3)]) h (λK h=>?_) (λs E h=>?_)
    .refine sr (mq ?_);obtain⟨j,mc,h⟩:=aa h;refine ja (au [.tmp 36] rfl rfl Oh rfl (jC k x5 j mc)) ?_;refine ol fD ?_;refine fF rfl ?_;refine nt (ah (gi (SE.nil 3 Ti) ?_));refine aE (λe c=>[(1,I a1),(6,.eq (.pointer (some ⟨z4.1,0,none⟩))),(12,.eq e),(37,.rep Tl j),(38,I (j.length:Int)),(39,I c.2)]) (λe c=>[.obj z4.1 123 (be q3 z4.2),.sl e 3 Ti c.1,.inv z4.2 (cu k q3)]) (dS k a1 q3 j) k (.slice none 0 0) (([]:(List Int)),0) (λ_=>rfl) h (SE.fin [1,0,2] ⟨rfl,rfl,rfl,rfl,rfl,rfl,trivial⟩ rfl) (λn e c h=>?_);unfold dS at h;refine sr (jb (bj rfl) ?_);refine nt (ai (ci h (λh=>?_) (λh=>?_)))
     .refine sk (aC (Z:=Value) (α:=(List Int)) (λl u=>[(1,I a1),(6,.eq (.pointer (some ⟨z4.1,0,none⟩))),(12,.eq l),(37,.rep Tl j),(38,I (j.length:Int)),(39,I c.2)]) (λl u=>[.obj z4.1 123 (be q3 z4.2),.sl l 3 Ti u,.inv z4.2 (cu k q3)]) h (λK h=>?_) (λl u h=>?_))
      .refine ah (sr ?_);obtain⟨D,O,h⟩:=aa h;refine jb (ay (t:=Ti) rfl fD bJ O) ?_;refine ja (ak (t:=Ti) rfl bJ rfl) ?_;refine aq (nt (sr ?_));iterate 2 refine mq ?_
       obtain⟨J,Y,h⟩:=aa h;refine jb (au [.const (.int .u8 (0)),.tmp 44] rfl rfl Og rfl (jB k 0 D J Y)) ?_;refine mq ?_;obtain⟨Xv,X,h⟩:=aa h;refine fr 2 ?_;refine fr 1 ?_;refine aU (Δ:=[_,_]) (F:=_) (λ_ _ _=>aj rfl _) rfl rfl (bp [.tmp 43,.tmp 45,.tmp 46] rfl rfl Rn rfl (jK k q3 z4.1 z4.2 J a1 Xv X)) ⟨rfl,rfl,rfl,trivial⟩ λ_=>?_;refine jb (gV rfl) ?_;refine nt (ci h (λh=>?_) (λh=>?_))
       .refine ae ?_;iterate 2 refine mq ?_
        refine ja (aR (t:=Ti) [(.tmp 50,_)] [D] rfl rfl cH (.cons rfl .int .nil) rfl rfl) ?_;obtain⟨Xy,U,h⟩:=aa h;refine fr 2 ?_;refine cz rfl rfl rfl (bi rfl rfl cH (ap U)) ⟨rfl,rfl,trivial⟩ λzz=>?_;refine aq (aG (bn ?_));exact jz (zz,c.1++[D]) h [1,0,2]
       .refine ba (bn ?_);exact jz (e,c.1) h [0,2,1]
      .refine ae ?_;obtain⟨mw,M,h⟩:=aa h;refine jb (bh rfl M) ?_;refine mq (nl ?_);exact jz (l,(u,mw)) h [0,1,2]
     .refine xa ?_;exact jz (e,c.1) h [1,2]
    .refine sr (mq ?_);refine aq ?_;refine cq (nt (aD ?_));refine bv (fy [4,12,54] ⟨rfl,rfl,rfl,trivial⟩) ?_;cases h;exact rb
def dE(k:Nat)(a2:(List Int))(a3:Int)(r9:(List ab)×bL)(h:(List Int)×bL)(e:Int×bL):Nat->Int->Option (Except Bool Unit)
 |0,_=>none
 |n+1,c=>
  if c < (r9.1.length:Int) then((aH r9.1 c).bind λZ=>
  (fh k Z).bind λj=>
  (aH [a2,h.1,a2] c).bind λY=>
  (i8 k Y).bind λx=>
  (aH [a3,e.1,a3] c).bind λX=>
  (lm k j X).bind λu=>
  (aH r9.1 c).bind λU=>
  (aH [a3,e.1,a3] c).bind λQ=>
  (k9 k U Q).bind λs=>
  (aH [a3,e.1,a3] c).bind λO=>
  (mh k j x O).bind λr=>
  (aH r9.1 c).bind λM=>
  (aH [a2,h.1,a2] c).bind λJ=>
  (aH [a3,e.1,a3] c).bind λI=>
  (og k M J I).bind λl=>
  ((if¬(u.2=s.2) then(some true) else(if¬(r.2=l.2) then(some true) else((eJ k u.1 s.1).bind λzz=>
  if¬(zz=true) then(some true) else((eJ k r.1 l.1).bind λqt=>
  if¬(qt=true) then(some true) else((aH r9.1 c).bind λE=>
  (jo k j E).bind λmw=>
  if¬(mw=true) then(some true) else((aH [a2,h.1,a2] c).bind λD=>
  (eJ k x D).bind λmc=>
  some (!mc))))))):Option (Bool)).bind λF=>
  if F=true then(some (.error false)) else((ck (c+1)).bind λy=>
  dE k a2 a3 r9 h e n y)) else(some (.ok ()))
def jF(k:Nat)(a0:ab)(a1:aQ)(a2:(List Int))(a3:Int)(a4:(List Int)):Option Bool:=
 (((qc k a0).bind λr5=>
 if r5=true then(some true) else(some (decide (20 < (a2.length:Int))))):Option (Bool)).bind λx3=>
 if x3=true then((qd k).bind λr6=>
 some r6) else((nE k a4).bind λr7=>
 (jS k a0 a1 (r7.1,r7.2.1,r7.2.2)).bind λr9=>
 (aH r9.1 1).bind λe=>
 (lu k (r9.2.1,r9.2.2.1,r9.2.2.2) e.1).bind λc=>
 (cD k (c.2.1,c.2.2.1,c.2.2.2) 3).bind λj=>
 bE (α:=Unit) (dE k a2 a3 r9 c j k 0) (some) λ_=>
 (qd k).bind λh=>
 some h)
theorem sc(k:Nat)(a0:ab)(a1:aQ)(a2:(List Int))(a3:Int)(a4:(List Int))(r:Bool)(h:jF k a0 a1 a2 a3 a4=some r):
 cC (eP Tryz.prog) 3 [.rep am a0,.rep aL a1,.rep Tl a2,I a3,.rep Tl a4] [] (λ_:Unit=>(bz [.eq (.bool r)],[])):=by
 unfold jF at h
 replace h:=aW h
 refine cC.of 156 Tryz.func3 rfl Tryz.ntmps3 rfl λS w0=>?_
 refine sr ?_
 refine bx λb1=>?_
 refine bx λb2=>?_
 refine cq ?_
 refine nt ?_
 refine ai ?_
 refine aC (Z:=Unit) (α:=Bool) (λz4 x3=>[(2,.rep Tl a2),(3,I a3),(4,.rep Tl a4),(5,Pt b1),(6,Pt b2),(32,.eq (.bool x3))]) (λz4 x3=>[.obj b1 25 (.rep am a0),.obj b2 27 (.rep aL a1)]) h (λK h=>?_) (λz4 x3 h=>?_)
 .
  refine ae (fr 1 ?_);refine lo cY ?_;obtain⟨r5,Ym,h⟩:=aa h;refine ja (au [.tmp 26] rfl rfl Xn rfl (Cm k a0 r5 Ym)) ?_;refine mq ?_;refine bU (s:=28) rfl (λhb=>?_) (λhb=>?_)
  .replace h:=dO (Ig hb) h;iterate 3 refine gn ?_
   refine pt (nl ?_);exact jz ((),true) h [0,1]
  .replace h:=bZ (Ih hb) h;refine gm ?_;refine ga (o8 rfl rfl fD) ?_;refine gb (iM rfl) ?_;refine pf (nl ?_);exact jz ((),decide (20 < (a2.length:Int))) h [0,1]
 .
  refine cv h (λh=>?_) (λh=>?_)
  .refine sr ?_;obtain⟨r6,Yl,h⟩:=aa h;refine cF rfl (bp [] rfl rfl W8 rfl (uV k r6 Yl)) trivial ?_;refine aq (nt (rx ?_));cases h;exact ra
  .refine sk (sr (mq ?_));obtain⟨r7,Yk,h⟩:=aa h;refine bf rfl rfl rfl (au [.tmp 34] rfl rfl Xm rfl (wK k a4 r7 Yk)) ⟨rfl,trivial⟩ λb8=>?_;refine aq (nt (sr ?_));refine fr 1 ?_;refine lo cY ?_;refine fr 2 ?_;refine lo nN ?_;refine mq ?_;obtain⟨r9,Yj,h⟩:=aa h;refine fr 2 ?_;refine kc (au [.tmp 36,.tmp 37,.tmp 38] rfl rfl Xl rfl (wI k a0 a1 (r7.1,r7.2.1,r7.2.2) b8 r9 Yj)) ?_;refine aq (nt (sr ?_));iterate 3 refine mq ?_
   obtain⟨X5,XF,h⟩:=aa h;refine jb (ay (t:=am) rfl SL cY XF) ?_;refine ja (En 1 false rfl fx rfl) ?_;refine ja (ak (t:=Ti) rfl bJ rfl) ?_;obtain⟨c,XS,h⟩:=aa h;refine kb (au [.tmp 41,.tmp 45] rfl rfl Xk rfl (wM k (r9.2.1,r9.2.2.1,r9.2.2.2) b8 X5.1 c XS)) ?_;refine mq ?_;refine jc (aR (t:=Tl) [(.tmp 40,_),(.tmp 46,_),(.tmp 47,_)] [a2,c.1,a2] rfl rfl lS (.cons rfl .rep (.cons rfl .rep (.cons rfl .rep .nil))) rfl rfl) ?_;iterate 2 refine mq ?_
   obtain⟨j,XR,h⟩:=aa h;refine kb (au [.tmp 50,.const (.int .i64 (3))] rfl rfl wU rfl (cI k (c.2.1,c.2.2.1,c.2.2.2) b8 3 j XR)) ?_;refine mq ?_;refine jc (aR (t:=Ti) [(.tmp 49,_),(.tmp 51,_),(.tmp 52,_)] [a3,j.1,a3] rfl rfl cH (.cons rfl .int (.cons rfl .int (.cons rfl .int .nil))) rfl rfl) ?_;refine aq ?_;refine aq (nt ?_);refine cO (Z:=Unit) (α:=Unit) (λJ M=>[]) (λJ M=>[]) (λe=>e=r) h (λe h=>Option.some.inj h) (λK hR h=>?_) (λJ M h=>?_)
   .refine sr (cq (nt (ah ?_)));refine aE (λF l=>[(12,Rs am r9.1),(13,.rep (.slice Tl) [a2,c.1,a2]),(14,.rep Tl [a3,j.1,a3]),(15,I l)]) (λF l=>[]) (dE k a2 a3 r9 c j) k () 0 (λ_=>rfl) h (SE.fin [] ⟨rfl,rfl,rfl,rfl,trivial⟩ rfl) (λn F l h=>?_);unfold dE at h;refine ai (sr ?_);iterate 2 refine mq ?_
    refine ol SL ?_;refine jb (bj rfl) ?_;refine nt (ci h (λh=>?_) (λh=>?_))
    .refine sk (ai (ah (ai (qw ?_))));refine bG rfl rfl rfl (aK rfl) ⟨rfl,trivial⟩ ?_;refine bG rfl rfl rfl (aK rfl) ⟨rfl,trivial⟩ ?_;obtain⟨X4,XE,h⟩:=aa h;refine bG rfl rfl rfl (ay (t:=am) rfl SL cY XE) ⟨rfl,rfl,trivial⟩ ?_;refine bG rfl rfl rfl (ak (t:=am) rfl cY rfl) ⟨rfl,trivial⟩ ?_;obtain⟨u,XQ,h⟩:=aa h;refine bG rfl rfl rfl (au [.tmp 63] rfl rfl UG rfl (tp k X4 u XQ)) ⟨rfl,trivial⟩ ?_;refine bG rfl rfl rfl (aK rfl) ⟨rfl,trivial⟩ ?_;refine bG rfl rfl rfl (aK rfl) ⟨rfl,trivial⟩ ?_;obtain⟨X3,XD,h⟩:=aa h;refine bG rfl rfl rfl (ay (t:=Tl) rfl nk ew XD) ⟨rfl,rfl,trivial⟩ ?_;refine bG rfl rfl rfl (ak (t:=Tl) rfl ew rfl) ⟨rfl,trivial⟩ ?_;obtain⟨x,XP,h⟩:=aa h;refine bG rfl rfl rfl (tG (au [.tmp 68] rfl rfl UF rfl (pi k X3 x XP))) ⟨rfl,trivial⟩ ?_;refine GN (MY 25 (.agg (.pair (I 0) (.pair (I 0) (.pair (I 0) (.pair (I 0) (.pair (.eq (.slice none 0 0)) (.eq (.slice none 0 0))))))))) (λ_=>rfl) rfl rfl rfl (bA rfl u7 yj) trivial ?_;refine uQ 11 [true,true,true,true,true,true,true,true,true,true,true] [17] [] [] rfl (by kernel_rfl) (by kernel_rfl) (by kernel_rfl) bY (λvs hv hB=>?_);obtain⟨w0,Yy,rfl,Yi⟩:=aF hv;obtain⟨w1,Yx,rfl,Yh⟩:=aF Yi;obtain⟨w2,Yw,rfl,Yg⟩:=aF Yh;obtain⟨w3,Yv,rfl,Yf⟩:=aF Yg;obtain⟨w4,Yu,rfl,Ye⟩:=aF Yf;obtain⟨w5,Yt,rfl,Yd⟩:=aF Ye;obtain⟨w6,Ys,rfl,Yc⟩:=aF Yd;obtain⟨w7,Yr,rfl,Yb⟩:=aF Yc;obtain⟨w8,Yq,rfl,Ya⟩:=aF Yb;obtain⟨w9,Yo,rfl,mw⟩:=aF Ya;obtain⟨Yp,Yn,rfl,mc⟩:=aF mw;obtain rfl:=qK mc;obtain⟨D,rfl⟩:=Jj hB.2.2.2.2.2.2.2.2.2.2.1;refine⟨[0],[.obj D 25 (.agg (.pair (I 0) (.pair (I 0) (.pair (I 0) (.pair (I 0) (.pair (.eq (.slice none 0 0)) (.eq (.slice none 0 0))))))))],by kernel_rfl,by decide,?_⟩;refine sH rfl rfl (aN rfl cY rfl rfl rfl) ⟨rfl,rfl,trivial⟩ (by kernel_rfl) ?_;refine RS rfl rfl rfl rfl (jl rfl) ⟨rfl,trivial⟩ (by kernel_rfl) ?_;refine xu ?_;refine bv (SE.fin (Γ':=[(12,Rs am r9.1),(13,.rep (.slice Tl) [a2,c.1,a2]),(14,.rep Tl [a3,j.1,a3]),(15,I l),(16,Pt D),(17,.rep Tl x)]) (Δ':=[.obj D 25 (.rep am u)]) [0] ⟨rfl,rfl,rfl,rfl,rfl,rfl,trivial⟩ rfl) ?_;refine tn (ai (bu ?_));refine ea 0 (ao rfl cY (oM) rfl) ?_;refine dm ?_;refine dm ?_;obtain⟨X2,XC,h⟩:=aa h;refine db (ay (t:=Ti) rfl fD bJ XC) ?_;refine da (ak (t:=Ti) rfl bJ rfl) ?_;obtain⟨Y,XO,h⟩:=aa h;refine db (bp [.tmp 71,.tmp 75] rfl rfl WN rfl (wE k u X2 Y XO)) ?_;refine dm ?_;refine da (eA rfl rfl) ?_;refine da (eA rfl rfl) ?_;refine da (jl rfl) ?_;refine df bY ?_;refine aq (nt (ai ?_));refine bu ?_;refine dm ?_;refine dm ?_;obtain⟨X1,XB,h⟩:=aa h;refine db (ay (t:=am) rfl SL cY XB) ?_;refine da (ak (t:=am) rfl cY rfl) ?_;refine dm ?_;refine dm ?_;obtain⟨X0,XA,h⟩:=aa h;refine db (ay (t:=Ti) rfl fD bJ XA) ?_;refine da (ak (t:=Ti) rfl bJ rfl) ?_;obtain⟨X,XN,h⟩:=aa h;refine db (au [.tmp 83,.tmp 87] rfl rfl WM rfl (wi k X1 X0 X XN)) ?_;refine dm ?_;refine da (eA rfl rfl) ?_;refine da (eA rfl rfl) ?_;refine da (jl rfl) ?_
     refine df bY ?_;refine aq (nt (ai ?_));refine bu ?_;refine ea 0 (ao rfl cY (oM) rfl) ?_;refine dm ?_;refine dm ?_;refine dm ?_;obtain⟨XZ,Xz,h⟩:=aa h;refine db (ay (t:=Ti) rfl fD bJ Xz) ?_;refine da (ak (t:=Ti) rfl bJ rfl) ?_;obtain⟨U,XM,h⟩:=aa h;refine dc (bp [.tmp 92,.tmp 93,.tmp 97] rfl rfl Uz rfl (ti k u x XZ U XM)) ?_;refine dm ?_;refine da (eA rfl rfl) ?_;refine da (eA rfl rfl) ?_;refine da (jl rfl) ?_;refine df bY ?_;refine aq (nt (ai ?_));refine bu ?_;refine dm ?_;refine dm ?_;obtain⟨XY,Xy,h⟩:=aa h;refine db (ay (t:=am) rfl SL cY Xy) ?_;refine da (ak (t:=am) rfl cY rfl) ?_;refine dm ?_;refine dm ?_;obtain⟨XX,Xx,h⟩:=aa h;refine db (ay (t:=Tl) rfl nk ew Xx) ?_;refine da (ak (t:=Tl) rfl ew rfl) ?_;refine dm ?_;refine dm ?_;obtain⟨XW,Xw,h⟩:=aa h;refine db (ay (t:=Ti) rfl fD bJ Xw) ?_;refine da (ak (t:=Ti) rfl bJ rfl) ?_;obtain⟨Q,XL,h⟩:=aa h;refine dc (au [.tmp 105,.tmp 109,.tmp 113] rfl rfl WL rfl (zL k XY XX XW Q XL)) ?_;refine dm ?_;refine da (eA rfl rfl) ?_;refine da (eA rfl rfl) ?_;refine da (jl rfl) ?_;refine df bY ?_;refine aq (nt ?_);refine aC (Z:=Unit) (α:=Bool) (λE y=>[(12,Rs am r9.1),(13,.rep (.slice Tl) [a2,c.1,a2]),(14,.rep Tl [a3,j.1,a3]),(15,I l),(154,.eq (.bool y))]) (λE y=>[]) h (λK h=>?_) (λE y h=>?_)
     .refine bu ?_;refine dm ?_;refine dm ?_;refine db (dZ rfl) ?_;refine jH rfl rfl rfl (aK rfl) ⟨rfl,trivial⟩ (λhb=>?_) (λhb=>?_)
      .replace h:=dO (PN hb) h;iterate 3 refine dg ?_
       refine db (gq rfl) ?_;refine dm ?_;iterate 4 refine dg ?_
       refine db (gq rfl) ?_;refine dm ?_;iterate 4 refine dg ?_
       refine db (gq rfl) ?_;refine dm ?_;iterate 7 refine dg ?_
       refine db (gq rfl) ?_;refine dm ?_;iterate 5 refine dg ?_
       refine df bY ?_;iterate 2 refine gn ?_
       refine pt (nl ?_);exact jz ((),true) h []
      .replace h:=bZ (BV hb) h;refine aJ rfl rfl rfl rfl rfl (aK rfl) ⟨rfl,rfl,trivial⟩ ?_;refine aJ rfl rfl rfl rfl rfl (aK rfl) ⟨rfl,rfl,trivial⟩ ?_;refine aJ rfl rfl rfl rfl rfl (dZ rfl) ⟨rfl,rfl,rfl,trivial⟩ ?_;refine db (mK rfl) ?_;refine jH rfl rfl rfl (aK rfl) ⟨rfl,trivial⟩ (λhb=>?_) (λhb=>?_)
       .replace h:=dO (PN hb) h;iterate 4 refine dg ?_
        refine db (gq rfl) ?_;refine dm ?_;iterate 4 refine dg ?_
        refine db (gq rfl) ?_;refine dm ?_;iterate 7 refine dg ?_
        refine db (gq rfl) ?_;refine dm ?_;iterate 5 refine dg ?_
        refine df bY ?_;iterate 2 refine gn ?_
        refine pt (nl ?_);exact jz ((),true) h []
       .replace h:=bZ (BV hb) h;refine aJ rfl rfl rfl rfl rfl (aK rfl) ⟨rfl,rfl,trivial⟩ ?_;refine aJ rfl rfl rfl rfl rfl (aK rfl) ⟨rfl,rfl,trivial⟩ ?_;obtain⟨X9,XK,h⟩:=aa h;refine aJ rfl rfl rfl rfl rfl (au [.tmp 126,.tmp 127] rfl rfl HF rfl (fL k Y.1 X.1 X9 XK)) ⟨rfl,rfl,rfl,trivial⟩ ?_;refine aJ rfl rfl rfl rfl rfl (eS rfl) ⟨rfl,rfl,trivial⟩ ?_;refine db (mK rfl) ?_;refine jH rfl rfl rfl (aK rfl) ⟨rfl,trivial⟩ (λhb=>?_) (λhb=>?_)
        .replace h:=dO (rL hb) h;iterate 4 refine dg ?_
         refine db (gq rfl) ?_;refine dm ?_;iterate 7 refine dg ?_
         refine db (gq rfl) ?_;refine dm ?_;iterate 5 refine dg ?_
         refine df bY ?_;iterate 2 refine gn ?_
         refine pt (nl ?_);exact jz ((),true) h []
        .replace h:=bZ (mM hb) h;refine aJ rfl rfl rfl rfl rfl (aK rfl) ⟨rfl,rfl,trivial⟩ ?_;refine aJ rfl rfl rfl rfl rfl (aK rfl) ⟨rfl,rfl,trivial⟩ ?_;obtain⟨X8,XJ,h⟩:=aa h;refine aJ rfl rfl rfl rfl rfl (au [.tmp 132,.tmp 133] rfl rfl HF rfl (fL k U.1 Q.1 X8 XJ)) ⟨rfl,rfl,rfl,trivial⟩ ?_;refine aJ rfl rfl rfl rfl rfl (eS rfl) ⟨rfl,rfl,trivial⟩ ?_;refine db (mK rfl) ?_;refine jH rfl rfl rfl (aK rfl) ⟨rfl,trivial⟩ (λhb=>?_) (λhb=>?_)
         .replace h:=dO (rL hb) h;iterate 7 refine dg ?_
          refine db (gq rfl) ?_;refine dm ?_;iterate 5 refine dg ?_
          refine df bY ?_;iterate 2 refine gn ?_
          refine pt (nl ?_);exact jz ((),true) h []
         .replace h:=bZ (mM hb) h;refine iD 0 rfl rfl rfl rfl rfl rfl (ao rfl cY (oM) rfl) ⟨rfl,rfl,trivial⟩ ?_;refine aJ rfl rfl rfl rfl rfl (aK rfl) ⟨rfl,rfl,trivial⟩ ?_;refine aJ rfl rfl rfl rfl rfl (aK rfl) ⟨rfl,rfl,trivial⟩ ?_;obtain⟨XV,Xv,h⟩:=aa h;refine aJ rfl rfl rfl rfl rfl (ay (t:=am) rfl SL cY Xv) ⟨rfl,rfl,rfl,trivial⟩ ?_;refine aJ rfl rfl rfl rfl rfl (ak (t:=am) rfl cY rfl) ⟨rfl,rfl,trivial⟩ ?_;obtain⟨X7,XI,h⟩:=aa h;refine aJ rfl rfl rfl rfl rfl (au [.tmp 138,.tmp 142] rfl rfl WJ rfl (ul k u XV X7 XI)) ⟨rfl,rfl,rfl,trivial⟩ ?_;refine aJ rfl rfl rfl rfl rfl (eS rfl) ⟨rfl,rfl,trivial⟩ ?_;refine db (mK rfl) ?_;refine jH rfl rfl rfl (aK rfl) ⟨rfl,trivial⟩ (λhb=>?_) (λhb=>?_)
          .replace h:=dO (rL hb) h;iterate 5 refine dg ?_
           refine df bY ?_;iterate 2 refine gn ?_
           refine pt (nl ?_);exact jz ((),true) h []
          .replace h:=bZ (mM hb) h;refine aJ rfl rfl rfl rfl rfl (aK rfl) ⟨rfl,rfl,trivial⟩ ?_;refine aJ rfl rfl rfl rfl rfl (aK rfl) ⟨rfl,rfl,trivial⟩ ?_;refine aJ rfl rfl rfl rfl rfl (aK rfl) ⟨rfl,rfl,trivial⟩ ?_;obtain⟨XU,zz,h⟩:=aa h;refine aJ rfl rfl rfl rfl rfl (ay (t:=Tl) rfl nk ew zz) ⟨rfl,rfl,rfl,trivial⟩ ?_;refine aJ rfl rfl rfl rfl rfl (ak (t:=Tl) rfl ew rfl) ⟨rfl,rfl,trivial⟩ ?_;refine df bY ?_;obtain⟨O,XH,h⟩:=aa h;refine gb (au [.tmp 147,.tmp 151] rfl rfl HF rfl (fL k x XU O XH)) ?_;refine ga (eS rfl) ?_;refine pf (nl ?_);exact jz ((), !O) h []
     .refine cv h (λh=>?_) (λh=>?_)
      .refine sr (cq (nt (aD (br (aX (bg ?_))))));obtain rfl:=hR _ h;exact ra
      .refine ba (aI (tn (ae (mq ?_))));obtain⟨XT,qt,h⟩:=aa h;refine jb (bh rfl qt) ?_;refine aq (nl ?_);exact jz ((),XT) h []
    .refine xa ?_;exact jz ((),()) h []
   .refine sr ?_;obtain⟨X6,XG,h⟩:=aa h;refine cF rfl (bp [] rfl rfl W8 rfl (uV k X6 XG)) trivial ?_;refine aq (nt (aD ?_));cases h;exact ra
