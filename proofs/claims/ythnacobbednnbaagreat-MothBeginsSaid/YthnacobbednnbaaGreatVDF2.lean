import Derived.Test.YthnacobbednnbaaGreatVDB10
open Nat
open List hiding mem_of_getElem?
open Array hiding mem_of_getElem? mk
set_option linter.unusedSimpArgs false
set_option linter.unusedVariables false
set_option maxRecDepth 4000
set_option maxHeartbeats 1000000
namespace Go.Proofs.YthnacobbednnbaaGreat
open K Go Go.Proofs
def fx(k:Nat)(a0:ab)(a1:(List Int)):Nat->(Int×Int)->Option (Except ((Option ab)×Int×Int) Int)
 |0,_=>none
 |n+1,y5=>
  if y5.2 < (a1.length:Int) then((aH a1 y5.2).bind λx7=>
  (ck (a0.1 - 1)).bind λx8=>
  (dZ k x7 0 x8).bind λr9=>
  if¬(r9=true) then(some (.error (none,0,3))) else(((if 0 < y5.2 then((ck (y5.2 - 1)).bind λh=>
  (aH a1 h).bind λe=>
  some (decide (x7≤e))) else(some false)):Option (Bool)).bind λj=>
  if j=true then(some (.error (none,0,5))) else((gr k y5.1 x7).bind λl=>
  (ck (y5.2+1)).bind λc=>
  fx k a0 a1 n (l,c)))) else(some (.ok y5.1))
def dR(k:Nat)(a0:ab)(h:Int)(e:(List Int)):Nat->Int->Option (Except ((Option ab)×Int×Int) Unit)
 |0,_=>none
 |n+1,c=>
  if c < (e.length:Int) then((aH e c).bind λu=>
  (ck (a0.1 - 1)).bind λs=>
  (ck ((a0.2.2.2.2.1.length:Int) - 1)).bind λr=>
  (aH [s,r,(a0.2.2.2.2.1.length:Int)] h).bind λl=>
  (dZ k u 0 l).bind λx=>
  if¬(x=true) then(some (.error (none,0,3))) else((ck (c+1)).bind λj=>
  dR k a0 h e n j)) else(some (.ok ()))
def cZ(k:Nat)(a0:ab)(a2:(List Int))(a3:(List Int))(a4:(List Int)):Nat->Int->Option (Except ((Option ab)×Int×Int) Unit)
 |0,_=>none
 |n+1,c=>
  if c < ([a2,a3,a4].length:Int) then(bE (α:=Unit) ((aH [a2,a3,a4] c).bind λj=>
  dR k a0 c j k 0) (λe=>some (.error e)) λ_=>
  (ck (c+1)).bind λh=>
  cZ k a0 a2 a3 a4 n h) else(some (.ok ()))
def kL(k:Nat)(a0:ab)(a1:(List Int))(a2:(List Int))(a3:(List Int))(a4:(List Int)):Option ((Option ab)×Int×Int):=
 (nQ k a0).bind λr2=>
 if¬(r2=0) then(some (none,0,r2)) else(bE (α:=Int) (fx k a0 a1 k (0,0)) (some) λx3=>
 bE (α:=Unit) (cZ k a0 a2 a3 a4 k 0) (some) λ_=>
 (jJ k a0).bind λe=>
 gy e (none) (λc=>(eT k c).bind λh=>
 some (some c,x3,0)))
theorem m9(k:Nat)(a0:ab)(a1:(List Int))(a2:(List Int))(a3:(List Int))(a4:(List Int))(r:(Option ab)×Int×Int)(h:kL k a0 a1 a2 a3 a4=some r):
 cu (ew Tryz.prog) 48 [.rep am a0,.rep Tl a1,.rep Tl a2,.rep Tl a3,.rep Tl a4] [] (λz:Nat×Nat=>(bu [LE r.1 z.1,.eq (.int .u8 r.2.1),I r.2.2],LD r.1 λq=>rX q z.1 z.2 k)):=by
 unfold kL at h
 replace h:=aS h
 refine cu.of 95 Tryz.func48 rfl Tryz.ntmps48 rfl λS w0=>?_
 refine sr ?_
 refine bx λb1=>?_
 refine cq ?_
 refine cq ?_
 refine cq ?_
 refine nt ?_
 refine aj ?_
 refine sr ?_
 refine lo dp ?_
 obtain⟨r2,WO,h⟩:=aa h
 have WP:=zi k a0 r2 WO
 refine ja (av [.tmp 22] rfl rfl Vz rfl WP) ?_
 refine aq ?_
 refine nt ?_
 refine sr ?_
 refine mq ?_
 refine jb (dV rfl) ?_
 refine nt ?_
 refine cn h (λh=>?_) (λh=>?_)
 .
  refine sr (mq ?_);refine cq ?_;refine cq ?_;refine aq (nt (rx ?_));cases h;exact aQ (0,0) [.eq (.pointer none),_,_] 0 ⟨rfl,rfl,rfl,trivial⟩ rfl
 .
  refine sk (sr (cq (nt ?_)));refine cR (Z:=Unit) (α:=Int) (λz4 x3=>[(2,.rep Tl a2),(3,.rep Tl a3),(4,.rep Tl a4),(5,Pt b1),(14,.eq (.int .u8 x3))]) (λz4 x3=>[.obj b1 25 (.rep am a0)]) (λe=>e=r) h (λe h=>Option.some.inj h) (λK hR h=>?_) (λz4 x3 h=>?_)
  .refine sr (mq ?_);refine ol gG ?_;refine fM rfl ?_;refine nt (ai (aD (λz6 y5=>[(1,.rep Tl a1),(2,.rep Tl a2),(3,.rep Tl a3),(4,.rep Tl a4),(5,Pt b1),(14,.eq (.int .u8 y5.1)),(27,.rep Tl a1),(28,I (a1.length:Int)),(29,I y5.2)]) (λz6 y5=>[.obj b1 25 (.rep am a0)]) (fx k a0 a1) k () (0,0) (λ_=>rfl) h (SE.fin [0] ⟨rfl,rfl,rfl,rfl,rfl,rfl,rfl,rfl,rfl,trivial⟩ rfl) (λn z6 y5 h=>?_)));unfold fx at h;refine sr (jb (bp rfl) ?_);refine nt (aj (ci h (λh=>?_) (λh=>?_)))
   .refine sk (aj (ai (sr (mq ?_))));obtain⟨x7,WM,h⟩:=aa h;refine jb (aC (t:=Ti) rfl gG bW WM) ?_;refine ja (an (t:=Ti) rfl bW rfl) ?_;refine aq ?_;refine aq (nt (aj (sr ?_)));refine mq ?_;refine fl fK ?_;refine lo bW ?_;obtain⟨x8,WL,h⟩:=aa h;refine jb (eC rfl WL) ?_;obtain⟨r9,WN,h⟩:=aa h;refine jc (av [.tmp 34,.const (.int .i64 (0)),.tmp 37] rfl rfl zE rfl (ec k x7 0 x8 r9 WN)) ?_;refine ja (eS rfl) ?_;refine nt (cw h (λh=>?_) (λh=>?_))
    .refine sr (cq ?_);refine cq ?_;refine cq (nt (rx (br (bb (bg ?_)))));obtain rfl:=hR _ h;exact aQ (0,0) [.eq (.pointer none),_,_] 0 ⟨rfl,rfl,rfl,trivial⟩ rfl
    .refine sk (aj (aE (Z:=Unit) (α:=Bool) (λO y=>[(1,.rep Tl a1),(2,.rep Tl a2),(3,.rep Tl a3),(4,.rep Tl a4),(5,Pt b1),(14,.eq (.int .u8 y5.1)),(16,I x7),(27,.rep Tl a1),(28,I (a1.length:Int)),(29,I y5.2),(50,.eq (.bool y))]) (λO y=>[.obj b1 25 (.rep am a0)]) h (λK h=>?_) (λO y h=>?_)))
     .refine ae (mq ?_);refine jb (jp rfl) ?_;refine mq ?_;refine ce (s:=42) rfl (λhb=>?_) (λhb=>?_)
      .replace h:=eh (wi hb) h;refine gm ?_;refine gm ?_;refine gm ?_;obtain⟨WS,Wt,h⟩:=aa h;refine gb (eC rfl Wt) ?_;obtain⟨WG,Ws,h⟩:=aa h;refine gb (aC (t:=Ti) rfl gG bW Ws) ?_;refine ga (an (t:=Ti) rfl bW rfl) ?_;refine gb (AS rfl) ?_;refine pt (nl ?_);exact jz ((),decide (x7≤WG)) h [0]
      .replace h:=cH (wj hb) h;iterate 7 refine gn ?_
       refine pf (nl ?_);exact jz ((),false) h [0]
     .refine cv h (λh=>?_) (λh=>?_)
      .refine sr (cq ?_);refine cq ?_;refine cq (nt (rx (br (bb (bg ?_)))));obtain rfl:=hR _ h;exact aQ (0,0) [.eq (.pointer none),_,_] 0 ⟨rfl,rfl,rfl,trivial⟩ rfl
      .refine sk (ae ?_);iterate 2 refine mq ?_
       obtain⟨Y,Wy,h⟩:=aa h;refine jb (av [.tmp 51,.tmp 52] rfl rfl Qh rfl (lq k y5.1 x7 Y Wy)) ?_;refine aq (aG (aK (tn (ae ?_))));obtain⟨WE,Wq,h⟩:=aa h;refine jb (bi rfl Wq) ?_;refine mq (nl ?_);exact jz ((),(Y,WE)) h [0]
   .refine xa ?_;exact jz ((),y5.1) h [0]
  .refine cR (Z:=Unit) (α:=Unit) (λM U=>[(5,Pt b1),(14,.eq (.int .u8 x3))]) (λM U=>[.obj b1 25 (.rep am a0)]) (λe=>e=r) h (λe h=>Option.some.inj h) (λK hR h=>?_) (λM U h=>?_)
   .refine sr ?_;iterate 3 refine mq ?_
    refine jc (aX (t:=Tl) [(.tmp 55,_),(.tmp 56,_),(.tmp 57,_)] [a2,a3,a4] rfl rfl lX (.cons rfl .rep (.cons rfl .rep (.cons rfl .rep .nil))) rfl rfl) ?_;refine ol oa ?_;refine fM rfl ?_;refine nt (ai (aD (λJ c=>[(5,Pt b1),(14,.eq (.int .u8 x3)),(58,.rep (.slice Tl) [a2,a3,a4]),(59,I ([a2,a3,a4].length:Int)),(60,I c)]) (λJ c=>[.obj b1 25 (.rep am a0)]) (cZ k a0 a2 a3 a4) k () 0 (λ_=>rfl) h (SE.fin [0] ⟨rfl,rfl,rfl,rfl,rfl,trivial⟩ rfl) (λn J c h=>?_)));unfold cZ at h;refine sr (jb (bp rfl) ?_);refine nt (aj (ci h (λh=>?_) (λh=>?_)))
    .refine sk (cR (Z:=Unit) (α:=Unit) (λE Q=>[(5,Pt b1),(14,.eq (.int .u8 x3)),(58,.rep (.slice Tl) [a2,a3,a4]),(59,I ([a2,a3,a4].length:Int)),(60,I c)]) (λE Q=>[.obj b1 25 (.rep am a0)]) (λe=>e=r) h (λe h=>hR e h) (λK hR h=>?_) (λE Q h=>?_))
     .refine ai (sr (mq ?_));obtain⟨x,Wp,h⟩:=aa h;refine jb (aC (t:=Tl) rfl oa eR Wp) ?_;refine ja (an (t:=Tl) rfl eR rfl) ?_;refine aq ?_;refine aq (nt (sr ?_));refine mq ?_;refine ol gG ?_;refine fM rfl ?_;refine nt (ai (aD (λD u=>[(5,Pt b1),(14,.eq (.int .u8 x3)),(17,I c),(58,.rep (.slice Tl) [a2,a3,a4]),(59,I ([a2,a3,a4].length:Int)),(60,I c),(65,.rep Tl x),(66,I (x.length:Int)),(67,I u)]) (λD u=>[.obj b1 25 (.rep am a0)]) (dR k a0 c x) k () 0 (λ_=>rfl) h (SE.fin [0] ⟨rfl,rfl,rfl,rfl,rfl,rfl,rfl,rfl,rfl,trivial⟩ rfl) (λn D u h=>?_)));unfold dR at h;refine sr (jb (bp rfl) ?_);refine nt (aj (ci h (λh=>?_) (λh=>?_)))
      .refine sk (aj (ai (sr ?_)));obtain⟨WC,Wn,h⟩:=aa h;refine jb (aC (t:=Ti) rfl gG bW Wn) ?_;refine ja (an (t:=Ti) rfl bW rfl) ?_;refine aq (nt (sr ?_));refine mq ?_;refine fl fK ?_;refine lo bW ?_;obtain⟨WR,zz,h⟩:=aa h;refine jb (eC rfl zz) ?_;refine fl cf ?_;refine lo fG ?_;refine ol pU ?_;obtain⟨WQ,qt,h⟩:=aa h;refine jb (eC rfl qt) ?_;refine fl cf ?_;refine lo fG ?_;refine ol pU ?_;refine jc (Gf rfl TU bW Q5) ?_;refine mq ?_;obtain⟨WB,mw,h⟩:=aa h;refine jb (pB (t:=Ti) rfl TU bW rfl rfl (λ_=>rfl) mw) ?_;obtain⟨WI,Wx,h⟩:=aa h;refine jc (av [.tmp 71,.const (.int .i64 (0)),.tmp 84] rfl rfl zE rfl (ec k WC 0 WB WI Wx)) ?_;refine ja (eS rfl) ?_;refine nt (cw h (λh=>?_) (λh=>?_))
       .refine sr (cq ?_);refine cq ?_;refine cq (nt (aA (br (bb (br (bb (bg ?_)))))));obtain rfl:=hR _ h;exact aQ (0,0) [.eq (.pointer none),_,_] 0 ⟨rfl,rfl,rfl,trivial⟩ rfl
       .refine aZ (aK (tn (ae ?_)));obtain⟨WA,mc,h⟩:=aa h;refine jb (bi rfl mc) ?_;refine mq (nl ?_);exact jz ((),WA) h [0]
      .refine fF (bK (bK (c6 (bn ?_))));exact jz ((),()) h [0]
     .refine ae ?_;obtain⟨Wz,gw,h⟩:=aa h;refine jb (bi rfl gw) ?_;refine mq (nl ?_);exact jz ((),Wz) h [0]
    .refine xa ?_;exact jz ((),()) h [0]
   .refine sr (lo dp ?_);obtain⟨X,Wv,h⟩:=aa h;have j:=oQ k a0 X Wv;rcases hr:X with _ |WJ
    .rw [hr] at h j;replace h:=wn h;refine aO (Δ:=[]) (F:=_) (λ_ _ _=>ah rfl _) rfl rfl (av [.tmp 89] rfl rfl M5 rfl j) ⟨rfl,trivial⟩ λ_=>?_;cases h
    .rw [hr] at h j;replace h:=wl h;refine aO (Δ:=[]) (F:=_) (λ_ _ _=>ah rfl _) rfl rfl (av [.tmp 89] rfl rfl M5 rfl j) ⟨rfl,trivial⟩ λl=>?_;refine aq (nt (sr ?_));refine mq ?_;obtain⟨WH,Wu,h⟩:=aa h;refine fr 1 ?_;refine fr 1 ?_;refine aO (Δ:=[_,_]) (F:=_) (λ_ _ _=>ah rfl _) rfl rfl (bj [.tmp 91] rfl rfl U2 rfl (rC k WJ l.1 l.2 WH Wu)) ⟨rfl,trivial⟩ λ_=>?_;refine nt (sr ?_);iterate 2 refine mq ?_
     refine aq ?_;refine aq ?_;refine cq (nt (aA ?_));cases h;exact aQ (l.1,l.2) [.eq (.pointer (some ⟨l.1,0,none⟩)),_,_] 2 ⟨rfl,rfl,rfl,trivial⟩ rfl
def kD(k:Nat)(a0:ab)(r5:(List (List Int)))(x9:Int):Nat->((List (List Int))×Int)->Option (List (List Int))
 |0,_=>none
 |n+1,c=>
  if c.2 < x9 then((aH r5 c.2).bind λj=>
  (bR (0≤a0.1/\a0.1≤5)).bind λ_=>
  (nu k (List.take (Int.toNat a0.1) j)).bind λe=>
  (bR (be (length c.1+length [e]))).bind λ_=>
  (ck (c.2+1)).bind λh=>
  kD k a0 r5 x9 n (c.1++[e],h)) else(some c.1)
def rI(k:Nat)(a0:ab)(a1:(List Int)):Option ((List (List Int))×Int):=
 (kL k a0 a1 ([]:(List Int)) ([]:(List Int)) ([]:(List Int))).bind λr2=>
 gy r2.1 (if¬(r2.2.2=0) then(some (([]:(List (List Int))),r2.2.2)) else(none)) (λq3=>if¬(r2.2.2=0) then(some (([]:(List (List Int))),r2.2.2)) else((mQ k q3 r2.2.1).bind λr5=>
 (((ck ((a0.2.2.2.2.1.length:Int)+1)).bind λx9=>
 kD k a0 r5 x9 k (([]:(List (List Int))),0)):Option ((List (List Int)))).bind λx7=>
 some (x7,0)))
theorem xo(k:Nat)(a0:ab)(a1:(List Int))(r:(List (List Int))×Int)(h:rI k a0 a1=some r):
 cu (ew Tryz.prog) 17 [.rep am a0,.rep Tl a1] [] (λ_:Unit=>(bu [.rep (.slice Tl) r.1,I r.2],[])):=by
 unfold rI at h
 replace h:=aS h
 refine cu.of 43 Tryz.func17 rfl Tryz.ntmps17 rfl λS w0=>?_
 refine sr ?_
 refine bx λb1=>?_
 refine cq ?_
 refine cq ?_
 refine nt ?_
 refine sr ?_
 refine lo dp ?_
 refine mq ?_
 obtain⟨r2,X,h⟩:=aa h
 have j:=m9 k a0 a1 ([]:(List Int)) ([]:(List Int)) ([]:(List Int)) r2 X
 rcases hr:r2.1 with _ |q3
 .
  rw [hr] at h j;replace h:=wn h;refine aO (Δ:=[]) (F:=_) (λ_ _ _=>ah rfl _) rfl rfl (bH (N:=[(.tmp 13,.rep am a0),(.tmp 14,.rep Tl a1),(.const (.slice none 0 0),.eq (.slice none 0 0)),(.const (.slice none 0 0),.eq (.slice none 0 0)),(.const (.slice none 0 0),.eq (.slice none 0 0))]) (bj [.tmp 13,.tmp 14,.const (.slice none 0 0),.const (.slice none 0 0),.const (.slice none 0 0)] rfl rfl BB rfl j) λ_ _ _ hn=>⟨hn.1,hn.2.1,(aI (t:=Tl) (x:=([]:(List Int))) .nil rfl rfl hn.2.2.1),(aI (t:=Tl) (x:=([]:(List Int))) .nil rfl rfl hn.2.2.2.1),(aI (t:=Tl) (x:=([]:(List Int))) .nil rfl rfl hn.2.2.2.2.1),trivial⟩) ⟨rfl,rfl,rfl,rfl,rfl,trivial⟩ λ_=>?_;refine mq ?_;refine xr ?_;refine xr ?_;refine xr ?_;refine aq ?_;refine aq ?_;refine aq (nt (aj (sr ?_)));refine mq ?_;refine jb (dV rfl) ?_;refine nt (cn h (λh=>?_) (λh=>?_))
  .refine sr (mq ?_);refine cq ?_;refine aq (nt (rx ?_));refine bC (dL (t:=(.slice Tl)) (x:=([]:(List (List Int)))) 4 rfl .nil rfl rfl) ?_;cases h;exact rb
  .cases h
 .
  rw [hr] at h j;replace h:=wl h;refine aO (Δ:=[]) (F:=_) (λ_ _ _=>ah rfl _) rfl rfl (bH (N:=[(.tmp 13,.rep am a0),(.tmp 14,.rep Tl a1),(.const (.slice none 0 0),.eq (.slice none 0 0)),(.const (.slice none 0 0),.eq (.slice none 0 0)),(.const (.slice none 0 0),.eq (.slice none 0 0))]) (bj [.tmp 13,.tmp 14,.const (.slice none 0 0),.const (.slice none 0 0),.const (.slice none 0 0)] rfl rfl BB rfl j) λ_ _ _ hn=>⟨hn.1,hn.2.1,(aI (t:=Tl) (x:=([]:(List Int))) .nil rfl rfl hn.2.2.1),(aI (t:=Tl) (x:=([]:(List Int))) .nil rfl rfl hn.2.2.2.1),(aI (t:=Tl) (x:=([]:(List Int))) .nil rfl rfl hn.2.2.2.2.1),trivial⟩) ⟨rfl,rfl,rfl,rfl,rfl,trivial⟩ λz4=>?_;refine mq ?_;refine xr ?_;refine xr ?_;refine xr ?_;refine aq ?_;refine aq ?_;refine aq (nt (aj (sr ?_)));refine mq ?_;refine jb (dV rfl) ?_;refine nt (cn h (λh=>?_) (λh=>?_))
  .refine sr (mq ?_);refine cq ?_;refine aq (nt (rx ?_));refine bC (dL (t:=(.slice Tl)) (x:=([]:(List (List Int)))) 4 rfl .nil rfl rfl) ?_;cases h;exact rb
  .refine sk (sr (cq (nt (sr ?_))));iterate 2 refine mq ?_
   obtain⟨r5,U,h⟩:=aa h;refine fr 1 ?_;refine fr 1 ?_;refine aO (Δ:=[_,_]) (F:=_) (λ_ _ _=>ah rfl _) rfl rfl (bj [.tmp 22,.tmp 23] rfl rfl Gx rfl (qz k q3 z4.1 z4.2 r2.2.1 r5 U)) ⟨rfl,rfl,trivial⟩ λ_=>?_;refine aY rfl rfl rfl (bA rfl Hg JL) trivial λb6=>?_;refine aP rfl rfl (aN rfl HO rfl rfl rfl) ⟨rfl,rfl,trivial⟩ ?_;refine eE (km (t:=(.arr 7 Tr)) (x:=r5) [10] .rep ⟨rfl,trivial⟩) ?_;refine nt (aE (Z:=Value) (α:=(List (List Int))) (λz8 x7=>[(9,.eq z8)]) (λz8 x7=>[.sl z8 28 Tl x7,.inv z4.2 (co k q3)]) h (λK h=>?_) (λz8 x7 h=>?_))
   .refine sr (fl cf ?_);refine fr 2 ?_;refine lo fG ?_;refine ol pU ?_;obtain⟨x9,Q,h⟩:=aa h;refine jb (bi rfl Q) ?_;refine fM rfl ?_;refine nt (ai (iC (SE.nil 28 Tl) ?_));refine aD (λe c=>[(2,Pt b1),(9,.eq e),(10,.at (.arr 7 Tr) r5),(28,I x9),(29,I c.2)]) (λe c=>[.obj b1 25 (.rep am a0),.sl e 28 Tl c.1,.inv z4.2 (co k q3)]) (kD k a0 r5 x9) k (.slice none 0 0) (([]:(List (List Int))),0) (λ_=>rfl) h (SE.fin [1,0,3] ⟨rfl,rfl,rfl,rfl,rfl,trivial⟩ rfl) (λn e c h=>?_);unfold kD at h;refine sr (jb (bp rfl) ?_);refine nt (aj (ci h (λh=>?_) (λh=>?_)))
    .refine sk (aj (ai (sr (mq ?_))));refine aq (nt ?_);refine bL ?_;refine dm ?_;refine dm ?_;obtain⟨M,y,h⟩:=aa h;refine db (cE (t:=Tr) rfl KI jU y) ?_;refine da (au rfl fK) ?_;refine ea 0 (ao rfl bW jr rfl) ?_;obtain⟨gw,l,h⟩:=aa h;refine db (xd (t:=Ti) rfl Ee bW (ap l).1 (ap l).2) ?_;obtain⟨s,E,h⟩:=aa h;refine da (zR (av [.tmp 37] rfl rfl Vp rfl (tg k (List.take (Int.toNat a0.1) M) s E))) ?_;refine da (aX (t:=Tl) [(.tmp 38,_)] [s] rfl rfl lX (.cons rfl .rep .nil) rfl rfl) ?_;refine df cU ?_;obtain⟨Y,D,h⟩:=aa h;refine fr 1 ?_;refine cQ rfl rfl rfl (bq rfl rfl lX (ap D)) ⟨rfl,rfl,trivial⟩ λO=>?_;refine aq (aG (aK (tn (ae ?_))));obtain⟨J,u,h⟩:=aa h;refine jb (bi rfl u) ?_;refine mq (nl ?_);exact jz (O,(c.1++[s],J)) h [1,0,2]
    .refine xa ?_;exact jz (e,c.1) h [1,2]
   .refine sr (mq ?_);refine aq ?_;refine cq (nt (aA ?_));refine bC (gB [4,9,42] ⟨rfl,rfl,rfl,trivial⟩) ?_;cases h;exact rb
def cJ(k:Nat)(a0:ab)(a2:Int)(r1:(List (List Int))):Nat->Int->Option Bool
 |0,_=>none
 |n+1,y3=>
  if y3 < (a0.2.2.2.2.2.length:Int) then((aH a0.2.2.2.2.2 y3).bind λx5=>
  (((fu k a2 y3).bind λr9=>
  if¬(r9=true) then((aH r1 x5.2.1).bind λh=>
  (aH h x5.1).bind λe=>
  some (!decide ((decide (a0.2.2.1≤e))=x5.2.2))) else(some false)):Option (Bool)).bind λx7=>
  if x7=true then(some false) else((ck (y3+1)).bind λc=>
  cJ k a0 a2 r1 n c)) else(some true)
def ia(k:Nat)(a0:ab)(a1:Int)(a2:Int):Option Bool:=
 (mQ k a0 a1).bind λr1=>
 cJ k a0 a2 r1 k 0
theorem pI(k:Nat)(a0:ab)(c z_a0:Nat)(a1:Int)(a2:Int)(r:Bool)(h:ia k a0 a1 a2=some r):
 Ek (ew Tryz.prog) 119 [Pt c,.eq (.int .u8 a1),.eq (.int .u8 a2)] [.obj c 135 (ba a0 z_a0),.inv z_a0 (co k a0)] (.iface 168 (.agg #[])) r:=by
 unfold ia at h
 replace h:=aS h
 refine Ek.of 48 Tryz.func119 rfl Tryz.ntmps119 rfl λS w0=>?_
 refine sr ?_
 iterate 2 refine mq ?_
 obtain⟨r1,E,h⟩:=aa h
 have J:=qz k a0 c z_a0 a1 r1 E
 refine fr 1 ?_
 refine fr 1 ?_
 refine aO (Δ:=[_,_]) (F:=_) (λ_ _ _=>ah rfl _) rfl rfl (bj [.tmp 9,.tmp 10] rfl rfl Gx rfl J) ⟨rfl,rfl,trivial⟩ λ_=>?_
 refine aY rfl rfl rfl (bA rfl Hg JL) trivial λb2=>?_
 refine aP rfl rfl (aN rfl HO rfl rfl rfl) ⟨rfl,rfl,trivial⟩ ?_
 refine eE (km (t:=(.arr 7 Tr)) (x:=r1) [6] .rep ⟨rfl,trivial⟩) ?_
 refine nt ?_
 refine sr ?_
 refine mq ?_
 refine ja (cV rfl) ?_
 refine fl iI ?_
 refine fl fS ?_
 refine lo nF ?_
 refine ol CJ ?_
 refine fM rfl ?_
 refine nt ?_
 refine ai ?_
 refine aD (λz4 y3=>[(0,Pt c),(2,.eq (.int .u8 a2)),(6,.at (.arr 7 Tr) r1),(16,Rs aJ a0.2.2.2.2.2),(17,I (a0.2.2.2.2.2.length:Int)),(18,I y3)]) (λz4 y3=>[.obj c 135 (ba a0 z_a0),.inv z_a0 (co k a0)]) (cJ k a0 a2 r1) k () 0 (λ_=>rfl) h (SE.fin [0,1] ⟨rfl,rfl,rfl,rfl,rfl,rfl,trivial⟩ rfl) (λn z4 y3 h=>?_)
 unfold cJ at h
 refine sr ?_
 refine jb (bp rfl) ?_
 refine nt ?_
 refine aj ?_
 refine ci h (λh=>?_) (λh=>?_)
 .
  refine sk (aj (ai (sr (mq ?_))));obtain⟨x5,y,h⟩:=aa h;refine jb (aC (t:=aJ) rfl CJ nq y) ?_;refine ja (an (t:=aJ) rfl nq rfl) ?_;refine aY rfl rfl rfl (bA rfl FO NH) trivial λb6=>?_;refine aq ?_;refine aP rfl rfl (aN rfl nq rfl rfl rfl) ⟨rfl,rfl,trivial⟩ ?_;refine nt (aE (Z:=Unit) (α:=Bool) (λz8 x7=>[(0,Pt c),(2,.eq (.int .u8 a2)),(6,.at (.arr 7 Tr) r1),(16,Rs aJ a0.2.2.2.2.2),(17,I (a0.2.2.2.2.2.length:Int)),(18,I y3),(44,.eq (.bool x7))]) (λz8 x7=>[.obj c 135 (ba a0 z_a0),.inv z_a0 (co k a0)]) h (λK h=>?_) (λz8 x7 h=>?_))
  .refine bL ?_;refine dm ?_;refine dm ?_;obtain⟨r9,D,h⟩:=aa h;refine db (av [.tmp 23,.tmp 24] rfl rfl Jr rfl (iu k a2 y3 r9 D)) ?_;refine da (eS rfl) ?_;refine lK rfl rfl rfl (aW rfl) ⟨rfl,trivial⟩ (λhb=>?_) (λhb=>?_)
   .replace h:=eh (sG hb) h;refine bo rfl rfl rfl rfl rfl (au rfl zy) ⟨rfl,rfl,trivial⟩ ?_;refine ig 0 rfl rfl rfl rfl rfl rfl (ao rfl bW jr rfl) ⟨rfl,rfl,trivial⟩ ?_;refine bo rfl rfl rfl rfl rfl (au rfl zA) ⟨rfl,rfl,trivial⟩ ?_;refine ig 0 rfl rfl rfl rfl rfl rfl (ao rfl bW jr rfl) ⟨rfl,rfl,trivial⟩ ?_;obtain⟨M,l,h⟩:=aa h;refine bo rfl rfl rfl rfl rfl (cE (t:=Tr) rfl KI jU l) ⟨rfl,rfl,rfl,trivial⟩ ?_;obtain⟨u,j,h⟩:=aa h;refine bo rfl rfl rfl rfl rfl (cE (t:=Ti) rfl Ee bW j) ⟨rfl,rfl,rfl,trivial⟩ ?_;refine bo rfl rfl rfl rfl rfl (an (t:=Ti) rfl bW rfl) ⟨rfl,rfl,trivial⟩ ?_;refine bo rfl rfl rfl rfl rfl (aW rfl) ⟨rfl,rfl,trivial⟩ ?_;refine bo rfl rfl rfl rfl rfl (cV rfl) ⟨rfl,rfl,trivial⟩ ?_;refine bo rfl rfl rfl rfl rfl (au rfl iI) ⟨rfl,rfl,trivial⟩ ?_;refine bo rfl rfl rfl rfl rfl (au rfl rP) ⟨rfl,rfl,trivial⟩ ?_;refine ig 1 rfl rfl rfl rfl rfl rfl (ao rfl bW jr rfl) ⟨rfl,rfl,trivial⟩ ?_;refine bo rfl rfl rfl rfl rfl (iQ rfl) ⟨rfl,rfl,rfl,trivial⟩ ?_;refine bo rfl rfl rfl rfl rfl (au rfl Jn) ⟨rfl,rfl,trivial⟩ ?_;refine ig 0 rfl rfl rfl rfl rfl rfl (ao rfl VU jr rfl) ⟨rfl,rfl,trivial⟩ ?_;refine df cU ?_;refine gb (PS rfl U4) ?_;refine pt (nl ?_);exact jz ((), !decide ((decide (a0.2.2.1≤u))=x5.2.2)) h [1,2]
   .replace h:=cH (mX hb) h;iterate 15 refine dg ?_
    refine df cU ?_;refine gn ?_;refine pf (nl ?_);exact jz ((),false) h [1,2]
  .refine cv h (λh=>?_) (λh=>?_)
   .refine ae (cp rfl (IA rfl QD Q4) trivial ?_);refine ja (Ix rfl QD) ?_;refine G4 rfl rfl rfl rfl ?_;refine Cd ?_;refine ui ?_;refine ui ?_;refine Cd ?_;refine bC (SE.fin (Γ':=[]) [0,1] trivial rfl) ?_;cases h;exact N6
   .refine aZ (aK (tn (ae ?_)));obtain⟨s,e,h⟩:=aa h;refine jb (bi rfl e) ?_;refine mq (nl ?_);exact jz ((),s) h [0,1]
 .
  refine fF (bK (bK (c6 (kZ ?_))));refine bC (SE.fin (Γ':=[]) [0,1] trivial rfl) ?_;cases h;exact aQ () [] 2 trivial rfl
def dw(k:Nat)(a0:ab)(a1:Int)(a2:Int):Option Bool:=ia k a0 a1 a2
theorem Oq:QE Tryz.prog 168 (.agg #[]):=⟨⟨_,QD⟩,λw=>by kernel_rfl⟩
theorem Ju:∀(S:FS) (w:World),(A.rep (.arr 0 Ti) []).holds S w (.agg #[]):=λ_ _=>⟨[],⟨rfl,rfl⟩,rfl⟩
theorem Og:∀w,(zeroValue 168).run Tryz.prog w= .ok (.agg #[]) w:=λw=>by kernel_rfl
theorem OQ:∀S w,(A.cells S w (.rep (.arr 0 Ti) []) (Value.cells (.agg #[])).toList):=λ_ _=>⟨rfl,rfl⟩
theorem Ot:eJ Tryz.prog 168 0 true:=⟨λw=>by kernel_rfl,λw=>by kernel_rfl⟩
theorem Tv:ag Tryz.prog 118:=ag.of Tryz.func118 (by kernel_rfl) (by kernel_rfl)
theorem OD:ag Tryz.prog 119:=ag.of Tryz.func119 (by kernel_rfl) (by kernel_rfl)
theorem K9:eJ Tryz.prog 4 1 false:=⟨λw=>by kernel_rfl,λw=>by kernel_rfl⟩
theorem Uw:∀w,(zeroValue 4).run Tryz.prog w= .ok (.bool false) w:=λw=>by kernel_rfl
theorem VH:∀S w,(A.cells S w (.eq (.bool false)) (Value.cells (.bool false)).toList):=λ_ _=>⟨rfl,rfl⟩
theorem BL:zX Tryz.prog 118 (.iface 168 (.agg #[])) 4 (.bool false):=by
 refine⟨Tv,λM e0=>?_,λM e0=>?_⟩
 .refine mL.of (M:=M) (m:=.returning) (m1:=.returning) (val:=.nilIface) Tryz.func118 rfl rfl (by decide) rfl rfl (by decide) (λρ=>rfl) (λfr b cs hb hm=>Ia hb hm rfl) (.inl rfl) λb S w0=>?_;refine ja (LH Ju rfl Oq) ?_;refine mq ?_;refine xr ?_;refine xr ?_;refine aY rfl rfl rfl (bA rfl Og OQ) trivial λb1=>?_;refine aP rfl rfl (aN rfl Ot rfl rfl rfl) ⟨rfl,rfl,trivial⟩ ?_;refine aq (nt (sr ?_));refine mq (nt ?_);refine jT rfl (λhb=>by cases hb) (λhb=>?_);refine aZ (kZ ?_);refine bC (SE.fin (Γ':=[]) [1] trivial rfl) ?_;exact aQ () [] 1 trivial rfl
 .refine mL.of (M:=M) (m:=.panicking (iO (.iface 168 (.agg #[])) false)) (m1:=.panicking (iO (.iface 168 (.agg #[])) true)) (val:=.iface 168 (.agg #[])) Tryz.func118 rfl rfl (by decide) rfl rfl (by decide) (λρ=>rfl) (λfr b cs hb hm=>H9 hb hm) (.inr ⟨_,rfl⟩) λb S w0=>?_;refine ja (LG Ju rfl Oq) ?_;refine mq ?_;refine xr ?_;refine xr ?_;refine aY rfl rfl rfl (bA rfl Og OQ) trivial λb1=>?_;refine aP rfl rfl (aN rfl Ot rfl rfl rfl) ⟨rfl,rfl,trivial⟩ ?_;refine aq (nt (sr ?_));refine mq (nt ?_);refine jT rfl (λhb=>?_) (λhb=>by cases hb);refine ae (fr 1 ?_);refine aP rfl rfl (aN rfl K9 rfl rfl rfl) ⟨rfl,rfl,trivial⟩ ?_;refine aG (kZ ?_);refine bC (SE.fin (Γ':=[]) [0] trivial rfl) ?_;exact aQ () [] 1 trivial rfl
theorem oZ(k:Nat)(a0:ab)(c z_a0:Nat)(a1:Int)(a2:Int)(r:Bool)(h:dw k a0 a1 a2=some r):
 cu (ew Tryz.prog) 101 [Pt c,.eq (.int .u8 a1),.eq (.int .u8 a2)] (rX a0 c z_a0 k) (λ_:Unit=>(bu [.eq (.bool r)],rX a0 c z_a0 k)):=by
 have cr:=pI k a0 c z_a0 a1 a2 r h
 refine Ci 12 Tryz.func101 rfl Tryz.ntmps101 rfl λS w0=>?_
 refine sr ?_
 refine aY rfl rfl rfl (bA rfl Uw VH) trivial λb6=>?_
 refine nt ?_
 refine sr ?_
 refine ja (rm [] [.tmp 6] [] [(Pv b6)] rfl rfl rfl) ?_
 refine J8 rfl rfl rfl rfl rfl ?_
 refine nt ?_
 refine sr ?_
 iterate 3 refine mq ?_
 refine fr 2 ?_
 refine fr 2 ?_
 cases r with
 |false=>
  refine J9 (Ss:=[Pt c,.eq (.int .u8 a1),.eq (.int .u8 a2)]) (Δ:=rX a0 c z_a0 k) (F:=[.obj b6 4 (.eq (.bool false))]) [.tmp 8,.tmp 9,.tmp 10] rfl rfl rfl rfl OD ⟨rfl,rfl,rfl,trivial⟩ cr ?_;refine ui ?_;refine bC (SE.fin (Γ':=[(6,_)]) [2,0,1] ⟨rfl,trivial⟩ rfl) ?_;refine G5 BL ?_;refine bC (SE.fin (Γ':=[(6,_)]) [1,2,0] ⟨rfl,trivial⟩ rfl) ?_;exact aQ () [.eq (.bool false)] 2 ⟨⟨_,_,_,_,_,rfl,(.tail _ (.tail _ (.head _))),K9,(λ_=>rfl),rfl⟩,trivial⟩ rfl
 |true=>
  refine aO (Δ:=rX a0 c z_a0 k) (F:=[.obj b6 4 (.eq (.bool false))]) (λ_ _ _=>ah rfl _) rfl rfl (bj [.tmp 8,.tmp 9,.tmp 10] rfl rfl OD rfl cr.ok) ⟨rfl,rfl,rfl,trivial⟩ λ_=>?_;refine nt (sr (fr 2 ?_));refine aP rfl rfl (aN rfl K9 rfl rfl rfl) ⟨rfl,rfl,trivial⟩ ?_;refine nt (aA (N5 BL ?_));refine bC (SE.fin (Γ':=[(6,_)]) [1,2,0] ⟨rfl,trivial⟩ rfl) ?_;exact aQ () [.eq (.bool true)] 2 ⟨⟨_,_,_,_,_,rfl,(.tail _ (.tail _ (.head _))),K9,(λ_=>rfl),rfl⟩,trivial⟩ rfl
def eP(k:Nat)(a0:ab)(a1:Int):Option (List Int):=
 (kN k (sd (λ(y5:(List Int)) (p7:Int)=>
  (dw k a0 p7 a1).bind λr9=>
  if r9=true then((bR (be (length y5+length [p7]))).bind λ_=>
  some (y5++[p7],true)) else(some (y5,true)))) a0.1 (([]:(List Int)),false)).bind λr8=>
 if r8.2=true then(none) else(some r8.1)
theorem ly(k:Nat)(a0:ab)(c z_a0:Nat)(a1:Int)(r:(List Int))(h:eP k a0 a1=some r):
 cu (ew Tryz.prog) 68 [Pt c,.eq (.int .u8 a1)] [.obj c 135 (ba a0 z_a0),.inv z_a0 (co k a0)] (λ_:Unit=>(bu [.rep (.slice (.int .u8)) r],[.obj c 135 (ba a0 z_a0),.inv z_a0 (co k a0)])):=by
 unfold eP at h
 replace h:=aS h
 refine wL 23 Tryz.func68 rfl Tryz.ntmps68 rfl λS w0=>?_
 refine sr ?_
 refine bx λb1=>?_
 refine bx λb2=>?_
 refine cq ?_
 refine nt ?_
 refine sr ?_
 refine aY rfl rfl rfl (bA rfl KL NF) trivial λb3=>?_
 refine nt ?_
 refine aj ?_
 refine sr ?_
 refine fr 2 ?_
 refine lo K8 ?_
 refine ja (cV rfl) ?_
 refine fl iI ?_
 refine fl fK ?_
 refine fr 3 ?_
 refine lo bW ?_
 refine aY rfl rfl rfl (av [.tmp 11] rfl rfl SO rfl (sO a0.1)) ⟨rfl,trivial⟩ λb4=>?_
 refine nt ?_
 refine ai ?_
 refine iC (SE.nil 78 (.int .u8)) ?_
 refine dX 6 rfl ?_
 refine dX 6 rfl ?_
 refine dX 2 rfl ?_
 refine dX 6 rfl ?_
 refine dX 6 rfl ?_
 refine dX 6 rfl ?_
 refine dX 6 rfl ?_
 obtain⟨r8,s,h⟩:=aa h
 refine s9 (Δ:=[.obj b4 3 (I a0.1),.obj c 135 (ba a0 z_a0),.obj b1 77 (Pt c),.obj b3 92 (.eq (.slice none 0 0)),.sl (.slice none 0 0) 78 (.int .u8) ([]:(List Int)),.obj b2 78 (.eq (.int .u8 a1)),.inv z_a0 (co k a0)]) (F:=[]) (X:=Value) (J:=λ_=>Q1 r8.2) (E:=λz6=>[.obj b4 3 (I a0.1),.obj c 135 (ba a0 z_a0),.obj b1 77 (Pt c),.obj b3 92 (.eq z6),.sl z6 78 (.int .u8) r8.1,.obj b2 78 (.eq (.int .u8 a1)),.inv z_a0 (co k a0)]) (r0:=λ_=>.tup .any) rfl rfl OF (λrec hp ha hb hs hpe hN hv l=>?_) (λdl z6=>vk (λhj=>?_) (λhj=>?_))
 .
  rcases rec with⟨st0,pe0,fn0,tm0,ps0,as0,bd0,df0⟩;dsimp only at hp ha hb hs hpe hN hv;subst hp hs hpe;have vN:BX tm0 [(2,Pt b1),(3,Pt b2),(5,Pt b3)]:=⟨congrArg A.eq (hv 2 _ rfl).symm,congrArg A.eq (hv 3 _ rfl).symm,congrArg A.eq (hv 5 _ rfl).symm,trivial⟩;refine cu.pick (M:=(ew Tryz.prog)) [1,0,2,3,4,5,6,7] [1,0,2,3,4,5,6,7] (pJ (λ(z6:Value) (q:(List Int)×Bool)=>[.raw l (.loop (lj ⟨.ready,none,fn0,tm0, #[13],as0,bd0,df0⟩ (Q1 q.2))),.obj c 135 (ba a0 z_a0),.obj b1 77 (Pt c),.obj b3 92 (.eq z6),.sl z6 78 (.int .u8) q.1,.obj b2 78 (.eq (.int .u8 a1)),.inv z_a0 (co k a0)]) l (sd (λ(y5:(List Int)) (p7:Int)=>
  (dw k a0 p7 a1).bind λr9=>
  if r9=true then((bR (be (length y5+length [p7]))).bind λ_=>
  some (y5++[p7],true)) else(some (y5,true)))) k a0.1 b4 (λz6 q p r' h=>?_) (.slice none 0 0) (([]:(List Int)),false) r8 s) rfl (λ_=>rfl) (λ_=>rfl)
  obtain⟨rq,hq,h2,rfl⟩:=vl h;obtain⟨y5,b5⟩:=q;obtain rfl:b5=false:=hq;replace h:=aS h2;obtain⟨p7,hpv⟩:∃x,x=p:=⟨_,rfl⟩;subst hpv;refine YT.pick (R':=(λz6:Value=>(.eq (.bool rq.2),[.raw l (.loop (lj ⟨.ready,none,fn0,tm0, #[13],as0,bd0,df0⟩ (Q1 (!rq.2)))),.obj c 135 (ba a0 z_a0),.obj b1 77 (Pt c),.obj b3 92 (.eq z6),.sl z6 78 (.int .u8) rq.1,.obj b2 78 (.eq (.int .u8 a1)),.inv z_a0 (co k a0)]))) [0,1,2,3,4,5,6] [0,1,2,3,4,5,6] (JM ha hb (N:=23) (Γ:=[(2,Pt b1),(3,Pt b2),(5,Pt b3)]) rfl hN (by decide) vN (λS w=>?_)) rfl (λ_=>rfl) (λ_=>rfl);refine ae (aq (nl ?_));refine Ce rfl rfl ?_;refine ai (sr (fr 2 ?_));refine lo K8 ?_;refine mq ?_;refine fr 5 ?_;refine lo np ?_;obtain⟨r9,n,h⟩:=aa h;refine fr 6 ?_;refine fr 4 ?_;refine aO (Δ:=[_,_]) (F:=_) (λ_ _ _=>ah rfl _) rfl rfl (bj [.tmp 14,.tmp 15,.tmp 16] rfl rfl TF rfl (oZ k a0 c z_a0 p7 a1 r9 n)) ⟨rfl,rfl,rfl,trivial⟩ λ_=>?_;refine nt (cv h (λh=>?_) (λh=>?_))
  .refine ae (fr 5 ?_);refine lo yK ?_;refine mq ?_;refine ja (aX (t:=(.int .u8)) [(.tmp 19,_)] [p7] rfl rfl Lp (.cons rfl .int .nil) rfl rfl) ?_;obtain⟨u,e,h⟩:=aa h;refine fr 6 ?_;refine cQ rfl rfl rfl (bq rfl rfl Lp (ap e)) ⟨rfl,rfl,trivial⟩ λj=>?_;refine oM λo12=>?_;refine fr 1 ?_;refine aP rfl rfl (aN rfl yK o12 rfl rfl) ⟨rfl,rfl,trivial⟩ ?_;refine aG (aK (bI 3 rfl ?_));refine bI 4 rfl ?_;refine bI 3 rfl ?_;refine bI 3 rfl ?_;refine bI 5 rfl ?_;refine bI 5 rfl ?_;refine bI 6 rfl ?_;cases h;exact qG j 6 rfl
  .refine aZ (aK (bI 1 rfl ?_));refine bI 2 rfl ?_;refine bI 6 rfl ?_;refine bI 6 rfl ?_;refine bI 5 rfl ?_;refine bI 5 rfl ?_;refine bI 6 rfl ?_;cases h;exact qG z6 6 rfl
 .
  replace h:=cH (K2 hj) h;refine aK (tn (sr (fr 4 ?_)));refine lo yK ?_;refine aq (nt (aA ?_));refine bI 5 rfl ?_;refine bC (jm (off:=0) [4,22] ⟨rfl,rfl,trivial⟩ rfl rfl) ?_;refine bI 1 rfl ?_;refine Fz ?_;refine bC (SE.fin (Γ':=[(4,_)]) [2,5,0,1,3,4] ⟨rfl,trivial⟩ rfl) ?_;cases h;exact aQ () [_] 2 ⟨rfl,trivial⟩ rfl
 .
  replace h:=eh (K1 hj) h;cases h
def jt(k:Nat)(a0:ab)(a1:(List Int))(a2:(List Int))(a3:(List Int)):Option ((Option ab)×(List Int)×Int):=
 (kL k a0 ([]:(List Int)) a1 a2 a3).bind λr2=>
 gy r2.1 (if¬(r2.2.2=0) then(some (none,([]:(List Int)),r2.2.2)) else(none)) (λq3=>if¬(r2.2.2=0) then(some (none,([]:(List Int)),r2.2.2)) else((eP k q3 0).bind λr5=>
 if(r5.length:Int)=0 then(some (none,([]:(List Int)),9)) else(some (some q3,r5,0))))
theorem lD(k:Nat)(a0:ab)(a1:(List Int))(a2:(List Int))(a3:(List Int))(r:(Option ab)×(List Int)×Int)(h:jt k a0 a1 a2 a3=some r):
 cu (ew Tryz.prog) 60 [.rep am a0,.rep Tl a1,.rep Tl a2,.rep Tl a3] [] (λz:Nat×Nat=>(bu [LE r.1 z.1,.rep (.slice (.int .u8)) r.2.1,I r.2.2],LD r.1 λq=>rX q z.1 z.2 k)):=by
 unfold jt at h
 replace h:=aS h
 refine cu.of 34 Tryz.func60 rfl Tryz.ntmps60 rfl λS w0=>?_
 refine sr ?_
 refine bx λb1=>?_
 refine cq ?_
 refine cq ?_
 refine cq ?_
 refine nt ?_
 refine sr ?_
 refine lo dp ?_
 iterate 3 refine mq ?_
 obtain⟨r2,j,h⟩:=aa h
 have c:=m9 k a0 ([]:(List Int)) a1 a2 a3 r2 j
 rcases hr:r2.1 with _ |q3
 .
  rw [hr] at h c;replace h:=wn h;refine aO (Δ:=[]) (F:=_) (λ_ _ _=>ah rfl _) rfl rfl (bH (N:=[(.tmp 16,.rep am a0),(.const (.slice none 0 0),.eq (.slice none 0 0)),(.tmp 17,.rep Tl a1),(.tmp 18,.rep Tl a2),(.tmp 19,.rep Tl a3)]) (bj [.tmp 16,.const (.slice none 0 0),.tmp 17,.tmp 18,.tmp 19] rfl rfl BB rfl c) λ_ _ _ hn=>⟨hn.1,(aI (t:=Tl) (x:=([]:(List Int))) .nil rfl rfl hn.2.1),hn.2.2.1,hn.2.2.2.1,hn.2.2.2.2.1,trivial⟩) ⟨rfl,rfl,rfl,rfl,rfl,trivial⟩ λ_=>?_;refine mq ?_;refine xr ?_;refine xr ?_;refine xr ?_;refine aq ?_;refine aq ?_;refine aq (nt (aj (sr ?_)));refine mq ?_;refine jb (dV rfl) ?_;refine nt (cn h (λh=>?_) (λh=>?_))
  .refine sr (mq ?_);refine cq ?_;refine cq ?_;refine aq (nt (rx ?_));refine bC (dL (t:=(.slice (.int .u8))) (x:=([]:(List Int))) 9 rfl .nil rfl rfl) ?_;cases h;exact aQ (0,0) [.eq (.pointer none),_,_] 0 ⟨rfl,rfl,rfl,trivial⟩ rfl
  .cases h
 .
  rw [hr] at h c;replace h:=wl h;refine aO (Δ:=[]) (F:=_) (λ_ _ _=>ah rfl _) rfl rfl (bH (N:=[(.tmp 16,.rep am a0),(.const (.slice none 0 0),.eq (.slice none 0 0)),(.tmp 17,.rep Tl a1),(.tmp 18,.rep Tl a2),(.tmp 19,.rep Tl a3)]) (bj [.tmp 16,.const (.slice none 0 0),.tmp 17,.tmp 18,.tmp 19] rfl rfl BB rfl c) λ_ _ _ hn=>⟨hn.1,(aI (t:=Tl) (x:=([]:(List Int))) .nil rfl rfl hn.2.1),hn.2.2.1,hn.2.2.2.1,hn.2.2.2.2.1,trivial⟩) ⟨rfl,rfl,rfl,rfl,rfl,trivial⟩ λz4=>?_;refine mq ?_;refine xr ?_;refine xr ?_;refine xr ?_;refine aq ?_;refine aq ?_;refine aq (nt (aj (sr ?_)));refine mq ?_;refine jb (dV rfl) ?_;refine nt (cn h (λh=>?_) (λh=>?_))
  .refine sr (mq ?_);refine cq ?_;refine cq ?_;refine aq (nt (rx ?_));refine bC (dL (t:=(.slice (.int .u8))) (x:=([]:(List Int))) 9 rfl .nil rfl rfl) ?_;cases h;exact aQ (0,0) [.eq (.pointer none),_,_] 0 ⟨rfl,rfl,rfl,trivial⟩ rfl
  .refine sk (sr (mq ?_));obtain⟨r5,e,h⟩:=aa h;refine fr 1 ?_;refine fr 1 ?_;refine aO (Δ:=[_,_]) (F:=_) (λ_ _ _=>ah rfl _) rfl rfl (bj [.tmp 27,.const (.int .u8 (0))] rfl rfl SY rfl (ly k q3 z4.1 z4.2 0 r5 e)) ⟨rfl,rfl,trivial⟩ λ_=>?_;refine aq (nt (aj (sr ?_)));refine mq ?_;refine ol xw ?_;refine jb (jG rfl) ?_;refine nt (ci h (λh=>?_) (λh=>?_))
   .refine sr (cq ?_);refine cq ?_;refine cq (nt (rx ?_));refine bC (dL (t:=(.slice (.int .u8))) (x:=([]:(List Int))) 9 rfl .nil rfl rfl) ?_;cases h;exact aQ (0,0) [.eq (.pointer none),_,_] 0 ⟨rfl,rfl,rfl,trivial⟩ rfl
   .refine sk (sr ?_);iterate 2 refine mq ?_
    refine aq ?_;refine aq ?_;refine cq (nt (aA ?_));cases h;exact aQ (z4.1,z4.2) [.eq (.pointer (some ⟨z4.1,0,none⟩)),_,_] 2 ⟨rfl,rfl,rfl,trivial⟩ rfl
def na(k:Nat)(a0:ab)(a1:Int)(r2:(Option ab)×(List Int)×Int)(q3:ab)(y7:(List Int)×Int):Nat->(Int×Int)->Option Int
 |0,_=>none
 |n+1,c=>
  if c.2 < (r2.2.1.length:Int) then((((aH r2.2.1 c.2).bind λr=>
  (mQ k q3 r).bind λu=>
  (aH u a1).bind λl=>
  (aH l y7.2).bind λj=>
  if a0.2.2.1≤j then((ck (c.1+1)).bind λh=>
  some h) else(some c.1)):Option (Int)).bind λs=>
  (ck (c.2+1)).bind λe=>
  na k a0 a1 r2 q3 y7 n (s,e)) else(some c.1)
def nc(k:Nat)(a0:ab)(a1:Int)(r2:(Option ab)×(List Int)×Int)(q3:ab):Nat->((List Int)×Int)->Option (List Int)
 |0,_=>none
 |n+1,y7=>
  if y7.2 < a0.1 then(((((na k a0 a1 r2 q3 y7 k (0,0)):Option (Int)).bind λc=>
  (ck ((r2.2.1.length:Int) - c)).bind λe=>
  (bR (be (length y7.1+length [tZ c e]))).bind λ_=>
  some (y7.1++[tZ c e])):Option ((List Int))).bind λx9=>
  (ck (y7.2+1)).bind λh=>
  nc k a0 a1 r2 q3 n (x9,h)) else(some y7.1)
def vL(k:Nat)(a0:ab)(a1:Int):Option (Int×Int×Int):=
 (jt k a0 ([]:(List Int)) ([]:(List Int)) [a1]).bind λr2=>
 gy r2.1 (if¬(r2.2.2=0) then(some (0,0,r2.2.2)) else(none)) (λq3=>if¬(r2.2.2=0) then(some (0,0,r2.2.2)) else(((nc k a0 a1 r2 q3 k (([]:(List Int)),0)):Option ((List Int))).bind λx5=>
 (mT k x5).bind λc=>
 if(r2.2.1.length:Int)≤c then(some (0,0,11)) else((gV k x5 c).bind λe=>
 some (e,c,0))))
theorem A5(k:Nat)(a0:ab)(a1:Int)(r:Int×Int×Int)(h:vL k a0 a1=some r):
 cu (ew Tryz.prog) 25 [.rep am a0,I a1] [] (λ_:Unit=>(bu [I r.1,I r.2.1,I r.2.2],[])):=by
 unfold vL at h
 replace h:=aS h
 refine cu.of 71 Tryz.func25 rfl Tryz.ntmps25 rfl λS w0=>?_
 refine sr ?_
 refine bx λb1=>?_
 refine cq ?_
 refine cq ?_
 refine cq ?_
 refine nt ?_
 refine sr ?_
 refine lo dp ?_
 refine mq ?_
 refine ja (aX (t:=Ti) [(.tmp 18,_)] [a1] rfl rfl cY (.cons rfl .int .nil) rfl rfl) ?_
 obtain⟨r2,Wx,h⟩:=aa h
 have s:=lD k a0 ([]:(List Int)) ([]:(List Int)) [a1] r2 Wx
 rcases hr:r2.1 with _ |q3
 .
  rw [hr] at h s;replace h:=wn h;refine aO (Δ:=[]) (F:=_) (λ_ _ _=>ah rfl _) rfl rfl (bH (N:=[(.tmp 17,.rep am a0),(.const (.slice none 0 0),.eq (.slice none 0 0)),(.const (.slice none 0 0),.eq (.slice none 0 0)),(.tmp 19,.rep Tl [a1])]) (bj [.tmp 17,.const (.slice none 0 0),.const (.slice none 0 0),.tmp 19] rfl rfl BA rfl s) λ_ _ _ hn=>⟨hn.1,(aI (t:=Tl) (x:=([]:(List Int))) .nil rfl rfl hn.2.1),(aI (t:=Tl) (x:=([]:(List Int))) .nil rfl rfl hn.2.2.1),hn.2.2.2.1,trivial⟩) ⟨rfl,rfl,rfl,rfl,trivial⟩ λ_=>?_;refine mq ?_;refine xr ?_;refine xr ?_;refine xr ?_;refine aq ?_;refine aq ?_;refine aq (nt (aj (sr ?_)));refine mq ?_;refine jb (dV rfl) ?_;refine nt (cn h (λh=>?_) (λh=>?_))
  .refine sr (mq ?_);refine cq ?_;refine cq ?_;refine aq (nt (rx ?_));cases h;exact aQ () [_,_,_] 0 ⟨rfl,rfl,rfl,trivial⟩ rfl
  .cases h
 .
  rw [hr] at h s;replace h:=wl h;refine aO (Δ:=[]) (F:=_) (λ_ _ _=>ah rfl _) rfl rfl (bH (N:=[(.tmp 17,.rep am a0),(.const (.slice none 0 0),.eq (.slice none 0 0)),(.const (.slice none 0 0),.eq (.slice none 0 0)),(.tmp 19,.rep Tl [a1])]) (bj [.tmp 17,.const (.slice none 0 0),.const (.slice none 0 0),.tmp 19] rfl rfl BA rfl s) λ_ _ _ hn=>⟨hn.1,(aI (t:=Tl) (x:=([]:(List Int))) .nil rfl rfl hn.2.1),(aI (t:=Tl) (x:=([]:(List Int))) .nil rfl rfl hn.2.2.1),hn.2.2.2.1,trivial⟩) ⟨rfl,rfl,rfl,rfl,trivial⟩ λz4=>?_;refine mq ?_;refine xr ?_;refine xr ?_;refine xr ?_;refine aq ?_;refine aq ?_;refine aq (nt (aj (sr ?_)));refine mq ?_;refine jb (dV rfl) ?_;refine nt (cn h (λh=>?_) (λh=>?_))
  .refine sr (mq ?_);refine cq ?_;refine cq ?_;refine aq (nt (rx ?_));cases h;exact aQ () [_,_,_] 0 ⟨rfl,rfl,rfl,trivial⟩ rfl
  .refine sk (sr (cq (nt ?_)));refine aE (Z:=Value) (α:=(List Int)) (λz6 x5=>[(8,.rep (.slice (.int .u8)) r2.2.1),(10,.eq z6)]) (λz6 x5=>[.sl z6 3 Ti x5,.inv z4.2 (co k q3)]) h (λK h=>?_) (λz6 x5 h=>?_)
   .refine sr (fl fK ?_);refine fr 2 ?_;refine lo bW ?_;refine fM rfl ?_;refine nt (ai (iC (SE.nil 3 Ti) ?_));refine aD (λz8 y7=>[(1,I a1),(2,Pt b1),(7,.eq (.pointer (some ⟨z4.1,0,none⟩))),(8,.rep (.slice (.int .u8)) r2.2.1),(10,.eq z8),(28,I a0.1),(29,I y7.2)]) (λz8 y7=>[.obj b1 25 (.rep am a0),.obj z4.1 135 (ba q3 z4.2),.sl z8 3 Ti y7.1,.inv z4.2 (co k q3)]) (nc k a0 a1 r2 q3) k (.slice none 0 0) (([]:(List Int)),0) (λ_=>rfl) h (SE.fin [1,2,0,3] ⟨rfl,rfl,rfl,rfl,rfl,rfl,rfl,trivial⟩ rfl) (λn z8 y7 h=>?_);unfold nc at h;refine sr (jb (bp rfl) ?_);refine nt (aj (ci h (λh=>?_) (λh=>?_)))
    .refine sk (aE (Z:=Value) (α:=(List Int)) (λe x9=>[(1,I a1),(2,Pt b1),(7,.eq (.pointer (some ⟨z4.1,0,none⟩))),(8,.rep (.slice (.int .u8)) r2.2.1),(10,.eq e),(28,I a0.1),(29,I y7.2)]) (λe x9=>[.obj b1 25 (.rep am a0),.obj z4.1 135 (ba q3 z4.2),.sl e 3 Ti x9,.inv z4.2 (co k q3)]) h (λK h=>?_) (λe x9 h=>?_))
     .refine ai (sr (mq ?_));refine aq (nt (sr ?_));refine cq (nt ?_);refine aE (Z:=Unit) (α:=Int) (λE j=>[(1,I a1),(2,Pt b1),(7,.eq (.pointer (some ⟨z4.1,0,none⟩))),(8,.rep (.slice (.int .u8)) r2.2.1),(10,.eq z8),(12,I j),(28,I a0.1),(29,I y7.2)]) (λE j=>[.obj b1 25 (.rep am a0),.obj z4.1 135 (ba q3 z4.2),.sl z8 3 Ti y7.1,.inv z4.2 (co k q3)]) h (λK h=>?_) (λE j h=>?_)
      .refine sr (mq ?_);refine ol xw ?_;refine fM rfl ?_;refine nt (ai (aD (λD c=>[(1,I a1),(2,Pt b1),(7,.eq (.pointer (some ⟨z4.1,0,none⟩))),(8,.rep (.slice (.int .u8)) r2.2.1),(10,.eq z8),(11,I y7.2),(12,I c.1),(28,I a0.1),(29,I y7.2),(32,.rep (.slice (.int .u8)) r2.2.1),(33,I (r2.2.1.length:Int)),(34,I c.2)]) (λD c=>[.obj b1 25 (.rep am a0),.obj z4.1 135 (ba q3 z4.2),.sl z8 3 Ti y7.1,.inv z4.2 (co k q3)]) (na k a0 a1 r2 q3 y7) k () (0,0) (λ_=>rfl) h (SE.fin [0,1,2,3] ⟨rfl,rfl,rfl,rfl,rfl,rfl,rfl,rfl,rfl,rfl,rfl,rfl,trivial⟩ rfl) (λn D c h=>?_)));unfold na at h;refine sr (jb (bp rfl) ?_);refine nt (aj (ci h (λh=>?_) (λh=>?_)))
       .refine sk (aE (Z:=Unit) (α:=Int) (λy l=>[(1,I a1),(2,Pt b1),(7,.eq (.pointer (some ⟨z4.1,0,none⟩))),(8,.rep (.slice (.int .u8)) r2.2.1),(10,.eq z8),(11,I y7.2),(12,I l),(28,I a0.1),(29,I y7.2),(32,.rep (.slice (.int .u8)) r2.2.1),(33,I (r2.2.1.length:Int)),(34,I c.2)]) (λy l=>[.obj b1 25 (.rep am a0),.obj z4.1 135 (ba q3 z4.2),.sl z8 3 Ti y7.1,.inv z4.2 (co k q3)]) h (λK h=>?_) (λy l h=>?_))
        .refine ai (sr ?_);obtain⟨Ws,gw,h⟩:=aa h;refine jb (aC (t:=(.int .u8)) rfl xw np gw) ?_;refine ja (an (t:=(.int .u8)) rfl np rfl) ?_;refine aq (nt (aj ?_));refine bL ?_;refine dm ?_;refine dm ?_;obtain⟨Wv,zz,h⟩:=aa h;refine QQ 1 3 rfl rfl (by kernel_rfl) rfl rfl rfl (bj [.tmp 38,.tmp 39] rfl rfl Gx rfl (qz k q3 z4.1 z4.2 Ws Wv zz)) ⟨rfl,rfl,trivial⟩ ?_;refine dm ?_;obtain⟨Wz,Y,h⟩:=aa h;refine db (pB (t:=Tr) rfl KI jU rfl rfl (qp) Y) ?_;refine dm ?_;obtain⟨Wy,X,h⟩:=aa h;refine db (pB (t:=Ti) rfl Ee bW rfl rfl (λ_=>rfl) X) ?_;refine da (au rfl rP) ?_;refine ea 0 (ao rfl bW jr rfl) ?_;refine df cU ?_;refine jb (iQ rfl) ?_;refine nt (ci h (λh=>?_) (λh=>?_))
         .refine ae (mq ?_);obtain⟨Wq,U,h⟩:=aa h;refine jb (bi rfl U) ?_;refine aq (aG (bn ?_));exact jz ((),Wq) h [0,1,2,3]
         .refine aZ (bn ?_);exact jz ((),c.1) h [0,1,2,3]
        .refine ae ?_;obtain⟨Wp,Q,h⟩:=aa h;refine jb (bi rfl Q) ?_;refine mq (nl ?_);exact jz ((),(l,Wp)) h [0,1,2,3]
       .refine xa ?_;exact jz ((),c.1) h [0,1,2,3]
      .refine ae ?_;iterate 3 refine mq ?_
       refine ol xw ?_;refine mq ?_;obtain⟨J,O,h⟩:=aa h;refine jb (eC rfl O) ?_;refine jb (Iw rfl rfl) ?_;refine ja (aX (t:=Ti) [(.tmp 57,_)] [tZ j J] rfl rfl cY (.cons rfl .int .nil) rfl rfl) ?_;obtain⟨WA,mc,h⟩:=aa h;refine fr 2 ?_;refine cQ rfl rfl rfl (bq rfl rfl cY (ap mc)) ⟨rfl,rfl,trivial⟩ λWt=>?_;refine aq (aG (bn ?_));exact jz (Wt,y7.1++[tZ j J]) h [1,2,0,3]
     .refine ae ?_;obtain⟨Wn,M,h⟩:=aa h;refine jb (bi rfl M) ?_;refine mq (nl ?_);exact jz (e,(x9,Wn)) h [0,1,2,3]
    .refine xa ?_;exact jz (z8,y7.1) h [2,3]
   .refine sr (mq ?_);obtain⟨u,qt,h⟩:=aa h;refine ka (ko (N:=[(.tmp 61,.eq z6)]) (av [.tmp 61] rfl rfl S5 rfl (pj k x5 u qt)) (λ_ _ _ hv hn=>⟨(lend hn.1 hv),trivial⟩) (λ_=>⟨rfl,nV⟩)) ?_;refine aq (nt (aj (sr ?_)));iterate 2 refine mq ?_
    refine ol xw ?_;refine jb (iQ rfl) ?_;refine nt (ci h (λh=>?_) (λh=>?_))
    .refine sr (cq ?_);refine cq ?_;refine cq (nt (rx ?_));cases h;exact aQ () [_,_,_] 0 ⟨rfl,rfl,rfl,trivial⟩ rfl
    .refine sk (sr ?_);iterate 2 refine mq ?_
     obtain⟨Wu,mw,h⟩:=aa h;refine kb (ko (N:=[(.tmp 67,.eq z6),(.tmp 68,I u)]) (av [.tmp 67,.tmp 68] rfl rfl SZ rfl (nH k x5 u Wu mw)) (λ_ _ _ hv hn=>⟨(lend hn.1 hv),hn.2.1,trivial⟩) (λ_=>⟨rfl,nV⟩)) ?_;refine mq ?_;refine aq ?_;refine aq ?_;refine cq (nt (aA ?_));cases h;exact aQ () [_,_,_] 0 ⟨rfl,rfl,rfl,trivial⟩ rfl
def ee(k:Nat)(r7:(List Int)):Nat->((List (List Int))×Int)->Option (List (List Int))
 |0,_=>none
 |n+1,y8=>
  if y8.2 < (r7.length:Int) then((aH r7 y8.2).bind λh=>
  (eI k h).bind λc=>
  (bR (be (length y8.1+length [c]))).bind λ_=>
  (ck (y8.2+1)).bind λe=>
  ee k r7 n (y8.1++[c],e)) else(some y8.1)
def j8(k:Nat)(a0:ab):Option ((List (List Int))×Int):=
 (kL k a0 ([]:(List Int)) ([]:(List Int)) ([]:(List Int)) ([]:(List Int))).bind λr2=>
 gy r2.1 (if¬(r2.2.2=0) then(some (([]:(List (List Int))),r2.2.2)) else(none)) (λq3=>if¬(r2.2.2=0) then(some (([]:(List (List Int))),r2.2.2)) else((((eP k q3 0).bind λr7=>
 ee k r7 k (([]:(List (List Int))),0)):Option ((List (List Int)))).bind λx5=>
 some (x5,0)))
theorem qQ(k:Nat)(a0:ab)(r:(List (List Int))×Int)(h:j8 k a0=some r):
 cu (ew Tryz.prog) 28 [.rep am a0] [] (λ_:Unit=>(bu [.rep (.slice Tl) r.1,I r.2],[])):=by
 unfold j8 at h
 replace h:=aS h
 refine cu.of 33 Tryz.func28 rfl Tryz.ntmps28 rfl λS w0=>?_
 refine sr ?_
 refine bx λb1=>?_
 refine cq ?_
 refine cq ?_
 refine nt ?_
 refine sr ?_
 refine lo dp ?_
 obtain⟨r2,M,h⟩:=aa h
 have c:=m9 k a0 ([]:(List Int)) ([]:(List Int)) ([]:(List Int)) ([]:(List Int)) r2 M
 rcases hr:r2.1 with _ |q3
 .
  rw [hr] at h c;replace h:=wn h;refine aO (Δ:=[]) (F:=_) (λ_ _ _=>ah rfl _) rfl rfl (bH (N:=[(.tmp 11,.rep am a0),(.const (.slice none 0 0),.eq (.slice none 0 0)),(.const (.slice none 0 0),.eq (.slice none 0 0)),(.const (.slice none 0 0),.eq (.slice none 0 0)),(.const (.slice none 0 0),.eq (.slice none 0 0))]) (bj [.tmp 11,.const (.slice none 0 0),.const (.slice none 0 0),.const (.slice none 0 0),.const (.slice none 0 0)] rfl rfl BB rfl c) λ_ _ _ hn=>⟨hn.1,(aI (t:=Tl) (x:=([]:(List Int))) .nil rfl rfl hn.2.1),(aI (t:=Tl) (x:=([]:(List Int))) .nil rfl rfl hn.2.2.1),(aI (t:=Tl) (x:=([]:(List Int))) .nil rfl rfl hn.2.2.2.1),(aI (t:=Tl) (x:=([]:(List Int))) .nil rfl rfl hn.2.2.2.2.1),trivial⟩) ⟨rfl,rfl,rfl,rfl,rfl,trivial⟩ λ_=>?_;refine mq ?_;refine xr ?_;refine xr ?_;refine xr ?_;refine aq ?_;refine aq ?_;refine aq (nt (aj (sr ?_)));refine mq ?_;refine jb (dV rfl) ?_;refine nt (cn h (λh=>?_) (λh=>?_))
  .refine sr (mq ?_);refine cq ?_;refine aq (nt (rx ?_));refine bC (dL (t:=(.slice Tl)) (x:=([]:(List (List Int)))) 2 rfl .nil rfl rfl) ?_;cases h;exact rb
  .cases h
 .
  rw [hr] at h c;replace h:=wl h;refine aO (Δ:=[]) (F:=_) (λ_ _ _=>ah rfl _) rfl rfl (bH (N:=[(.tmp 11,.rep am a0),(.const (.slice none 0 0),.eq (.slice none 0 0)),(.const (.slice none 0 0),.eq (.slice none 0 0)),(.const (.slice none 0 0),.eq (.slice none 0 0)),(.const (.slice none 0 0),.eq (.slice none 0 0))]) (bj [.tmp 11,.const (.slice none 0 0),.const (.slice none 0 0),.const (.slice none 0 0),.const (.slice none 0 0)] rfl rfl BB rfl c) λ_ _ _ hn=>⟨hn.1,(aI (t:=Tl) (x:=([]:(List Int))) .nil rfl rfl hn.2.1),(aI (t:=Tl) (x:=([]:(List Int))) .nil rfl rfl hn.2.2.1),(aI (t:=Tl) (x:=([]:(List Int))) .nil rfl rfl hn.2.2.2.1),(aI (t:=Tl) (x:=([]:(List Int))) .nil rfl rfl hn.2.2.2.2.1),trivial⟩) ⟨rfl,rfl,rfl,rfl,rfl,trivial⟩ λz4=>?_;refine mq ?_;refine xr ?_;refine xr ?_;refine xr ?_;refine aq ?_;refine aq ?_;refine aq (nt (aj (sr ?_)));refine mq ?_;refine jb (dV rfl) ?_;refine nt (cn h (λh=>?_) (λh=>?_))
  .refine sr (mq ?_);refine cq ?_;refine aq (nt (rx ?_));refine bC (dL (t:=(.slice Tl)) (x:=([]:(List (List Int)))) 2 rfl .nil rfl rfl) ?_;cases h;exact rb
  .refine sk (sr (cq (nt ?_)));refine aE (Z:=Value) (α:=(List (List Int))) (λz6 x5=>[(7,.eq z6)]) (λz6 x5=>[.sl z6 28 Tl x5,.inv z4.2 (co k q3)]) h (λK h=>?_) (λz6 x5 h=>?_)
   .refine sr (mq ?_);obtain⟨r7,J,h⟩:=aa h;refine fr 1 ?_;refine fr 1 ?_;refine aO (Δ:=[_,_]) (F:=_) (λ_ _ _=>ah rfl _) rfl rfl (bj [.tmp 19,.const (.int .u8 (0))] rfl rfl SY rfl (ly k q3 z4.1 z4.2 0 r7 J)) ⟨rfl,rfl,trivial⟩ λ_=>?_;refine ol xw ?_;refine fM rfl ?_;refine nt (ai (iC (SE.nil 28 Tl) ?_));refine aD (λz9 y8=>[(7,.eq z9),(20,.rep (.slice (.int .u8)) r7),(21,I (r7.length:Int)),(22,I y8.2)]) (λz9 y8=>[.sl z9 28 Tl y8.1,.inv z4.2 (co k q3)]) (ee k r7) k (.slice none 0 0) (([]:(List (List Int))),0) (λ_=>rfl) h (SE.fin [0,2] ⟨rfl,rfl,rfl,rfl,trivial⟩ rfl) (λn z9 y8 h=>?_);unfold ee at h;refine sr (jb (bp rfl) ?_);refine nt (aj (ci h (λh=>?_) (λh=>?_)))
    .refine sk (aj (ai (sr ?_)));obtain⟨D,l,h⟩:=aa h;refine jb (aC (t:=(.int .u8)) rfl xw np l) ?_;refine ja (an (t:=(.int .u8)) rfl np rfl) ?_;refine aq (nt (ae ?_));iterate 2 refine mq ?_
     obtain⟨e,u,h⟩:=aa h;refine ja (av [.tmp 27] rfl rfl Js rfl (gP k D e u)) ?_;refine ja (aX (t:=Tl) [(.tmp 28,_)] [e] rfl rfl lX (.cons rfl .rep .nil) rfl rfl) ?_;obtain⟨O,s,h⟩:=aa h;refine cQ rfl rfl rfl (bq rfl rfl lX (ap s)) ⟨rfl,rfl,trivial⟩ λE=>?_;refine aq (aG (aK (tn (ae ?_))));obtain⟨y,j,h⟩:=aa h;refine jb (bi rfl j) ?_;refine mq (nl ?_);exact jz (E,(y8.1++[e],y)) h [0,1]
    .refine xa ?_;exact jz (z9,y8.1) h [0,1]
   .refine sr (mq ?_);refine aq ?_;refine cq (nt (aA ?_));refine bC (gB [2,7,32] ⟨rfl,rfl,rfl,trivial⟩) ?_;cases h;exact rb
def gx(k:Nat)(a2:Int)(r1:(List (List Int)))(x5:Int):Nat->Int->Option (Except Int Unit)
 |0,_=>none
 |n+1,y6=>
  if y6 < x5 then((aH r1 y6).bind λx8=>
  (aH x8 a2).bind λx9=>
  if 0≤x9 then(some (.error y6)) else((ck (y6+1)).bind λc=>
  gx k a2 r1 x5 n c)) else(some (.ok ()))
def jg(k:Nat)(a0:ab)(a1:Int)(a2:Int):Option Int:=
 (mQ k a0 a1).bind λr1=>
 bE (α:=Unit) ((ck ((a0.2.2.2.2.1.length:Int)+1)).bind λx5=>
 gx k a2 r1 x5 k 0) (some) λ_=>
 some (-1:Int)
theorem mj(k:Nat)(a0:ab)(c z_a0:Nat)(a1:Int)(a2:Int)(r:Int)(h:jg k a0 a1 a2=some r):
 cu (ew Tryz.prog) 74 [Pt c,.eq (.int .u8 a1),I a2] [.obj c 135 (ba a0 z_a0),.inv z_a0 (co k a0)] (λ_:Unit=>(bu [I r],[.obj c 135 (ba a0 z_a0),.inv z_a0 (co k a0)])):=by
 unfold jg at h
 replace h:=aS h
 refine cu.of 30 Tryz.func74 rfl Tryz.ntmps74 rfl λS w0=>?_
 refine sr ?_
 refine cq ?_
 refine nt ?_
 refine sr ?_
 iterate 2 refine mq ?_
 obtain⟨r1,D,h⟩:=aa h
 have E:=qz k a0 c z_a0 a1 r1 D
 refine fr 1 ?_
 refine fr 1 ?_
 refine aO (Δ:=[_,_]) (F:=_) (λ_ _ _=>ah rfl _) rfl rfl (bj [.tmp 9,.tmp 10] rfl rfl Gx rfl E) ⟨rfl,rfl,trivial⟩ λ_=>?_
 refine aY rfl rfl rfl (bA rfl Hg JL) trivial λb2=>?_
 refine aP rfl rfl (aN rfl HO rfl rfl rfl) ⟨rfl,rfl,trivial⟩ ?_
 refine eE (km (t:=(.arr 7 Tr)) (x:=r1) [7] .rep ⟨rfl,trivial⟩) ?_
 refine nt ?_
 refine cR (Z:=Unit) (α:=Unit) (λz4 x3=>[]) (λz4 x3=>[.obj c 135 (ba a0 z_a0),.inv z_a0 (co k a0)]) (λe=>e=r) h (λe h=>Option.some.inj h) (λK hR h=>?_) (λz4 x3 h=>?_)
 .
  refine sr (mq ?_);refine ja (cV rfl) ?_;refine fl iI ?_;refine fl cf ?_;refine lo fG ?_;refine ol pU ?_;obtain⟨x5,y,h⟩:=aa h;refine jb (bi rfl y) ?_;refine fM rfl ?_;refine nt (ai (aD (λz7 y6=>[(2,I a2),(7,.at (.arr 7 Tr) r1),(18,I x5),(19,I y6)]) (λz7 y6=>[.obj c 135 (ba a0 z_a0),.inv z_a0 (co k a0)]) (gx k a2 r1 x5) k () 0 (λ_=>rfl) h (SE.fin [0,1] ⟨rfl,rfl,rfl,rfl,trivial⟩ rfl) (λn z7 y6 h=>?_)));unfold gx at h;refine sr (jb (bp rfl) ?_);refine nt (aj (ci h (λh=>?_) (λh=>?_)))
  .refine sk (aj (ai (sr (mq ?_))));refine aq (nt (sr ?_));iterate 2 refine mq ?_
   obtain⟨x8,u,h⟩:=aa h;refine jb (cE (t:=Tr) rfl KI jU u) ?_;obtain⟨x9,s,h⟩:=aa h;refine jb (cE (t:=Ti) rfl Ee bW s) ?_;refine ja (an (t:=Ti) rfl bW rfl) ?_;refine jb (iQ rfl) ?_;refine nt (ci h (λh=>?_) (λh=>?_))
   .refine sr (mq ?_);refine aq (nt (aA (br (bb (bg ?_)))));obtain rfl:=hR _ h;exact aQ () [_] 2 ⟨rfl,trivial⟩ rfl
   .refine aZ (aK (tn (ae ?_)));obtain⟨l,j,h⟩:=aa h;refine jb (bi rfl j) ?_;refine mq (nl ?_);exact jz ((),l) h [0,1]
  .refine xa ?_;exact jz ((),()) h [0,1]
 .
  refine sr (cq (nt (aA ?_)));cases h;exact aQ () [_] 2 ⟨rfl,trivial⟩ rfl
def ib(k:Nat)(r2:(List (List Int)))(y6:Int×Int×(List (fa×fa))):Nat->Int->Option Int
 |0,_=>none
 |n+1,c=>
  ((if 0 < c then((ck (c - 1)).bind λl=>
  (aH r2 l).bind λj=>
  (aH j y6.1).bind λh=>
  some (decide (0≤h))) else(some false)):Option (Bool)).bind λr=>
  if r=true then((ck (c - 1)).bind λe=>
  ib k r2 y6 n e) else(some c)
def ic(k:Nat)(a0:ab)(r2:(List (List Int))):Nat->(Int×Int×(List (fa×fa)))->Option (List (fV×fV))
 |0,_=>none
 |n+1,y6=>
  bE (α:=Int×Int×(List (fa×fa))) (((ib k r2 y6 k y6.2.1):Option (Int)).bind λc=>
  if c=0 then((bR (As (y6.1,y6.2.1))).bind λ_=>
  some (.error (DC y6.2.2 (y6.1,y6.2.1) ((-1:Int),0)))) else((ck (c - 1)).bind λr=>
  (aH r2 r).bind λl=>
  (ck (c - 1)).bind λj=>
  (dK k a0 l y6.1 j).bind λh=>
  (ck (c - 1)).bind λe=>
  (bR (As (y6.1,y6.2.1))).bind λ_=>
  some (.ok (h,e,DC y6.2.2 (y6.1,y6.2.1) (h,e))))) (some) λx8=>
  ic k a0 r2 n (x8.1,x8.2.1,x8.2.2)
def mm(k:Nat)(a0:ab)(a1:Int)(a2:fV):Option (List (fV×fV)):=
 (mQ k a0 a1).bind λr2=>
 ic k a0 r2 k (a2.1,a2.2,([]:List (fa×fa)))
theorem sN(k:Nat)(a0:ab)(c z_a0:Nat)(a1:Int)(a2:fV)(r:(List (fV×fV)))(h:mm k a0 a1 a2=some r):
 cu (ew Tryz.prog) 79 [Pt c,.eq (.int .u8 a1),.rep bV a2] [.obj c 135 (ba a0 z_a0),.inv z_a0 (co k a0)] (λz:Nat=>(bu [.eq (.map (some z))],[.inv z (uE r),.obj c 135 (ba a0 z_a0),.inv z_a0 (co k a0)])):=by
 unfold mm at h
 replace h:=aS h
 refine cu.of 56 Tryz.func79 rfl Tryz.ntmps79 rfl λS w0=>?_
 refine sr ?_
 refine bx λb1=>?_
 refine cq ?_
 refine nt ?_
 refine sr ?_
 iterate 2 refine mq ?_
 obtain⟨r2,WN,h⟩:=aa h
 have WO:=qz k a0 c z_a0 a1 r2 WN
 refine fr 2 ?_
 refine fr 2 ?_
 refine aO (Δ:=[_,_]) (F:=_) (λ_ _ _=>ah rfl _) rfl rfl (bj [.tmp 12,.tmp 13] rfl rfl Gx rfl WO) ⟨rfl,rfl,trivial⟩ λ_=>?_
 refine aY rfl rfl rfl (bA rfl Hg JL) trivial λb3=>?_
 refine aP rfl rfl (aN rfl HO rfl rfl rfl) ⟨rfl,rfl,trivial⟩ ?_
 refine eE (km (t:=(.arr 7 Tr)) (x:=r2) [7] .rep ⟨rfl,trivial⟩) ?_
 refine nt ?_
 refine sr ?_
 refine aY rfl rfl rfl (xT rfl) trivial λz4=>?_
 refine eE (uf (uE []) K5) ?_
 refine aq ?_
 refine nt ?_
 refine sr ?_
 refine aY rfl rfl rfl (bA rfl ul BU) trivial λb5=>?_
 refine nt ?_
 refine sr ?_
 refine fl zB ?_
 refine aP rfl rfl (aN rfl bW rfl rfl rfl) ⟨rfl,rfl,trivial⟩ ?_
 refine nt ?_
 refine ai ?_
 refine dX 4 rfl ?_
 refine iC (iJ (a:=.rep bV a2) (a':=.agg (.pair (I a2.1) (I a2.2))) (AE.trans FN (AE.agg (AE.trans Cj (AE.pair AE.int AE.int))))) ?_
 refine aD (λz7 y6=>[(0,Pt c),(5,Pt b1),(7,.at (.arr 7 Tr) r2),(8,.eq (.map (some z4))),(9,Pt b5)]) (λz7 y6=>[.obj c 135 (ba a0 z_a0),.obj b1 110 (.agg (.pair (I y6.1) (I y6.2.1))),.obj b5 110 (.agg (.pair (I (-1:Int)) (I 0))),.inv z_a0 (co k a0),.inv z4 (uE y6.2.2)]) (ic k a0 r2) k () (a2.1,a2.2,([]:List (fa×fa))) (λ_=>rfl) h (SE.fin [3,0,1,4,2] ⟨rfl,rfl,rfl,rfl,rfl,trivial⟩ rfl) (λn z7 y6 h=>?_)
 unfold ic at h
 refine Kq (Z:=Unit) (α:=Int×Int×(List (fa×fa))) (λz9 x8=>[(0,Pt c),(5,Pt b1),(7,.at (.arr 7 Tr) r2),(8,.eq (.map (some z4))),(9,Pt b5)]) (λz9 x8=>[.obj c 135 (ba a0 z_a0),.obj b1 110 (.agg (.pair (I x8.1) (I x8.2.1))),.obj b5 110 (.agg (.pair (I (-1:Int)) (I 0))),.inv z_a0 (co k a0),.inv z4 (uE x8.2.2)]) (λe=>e=r) h (λe h=>Option.some.inj h) (λK hR h=>?_) (λz9 x8 h=>?_)
 .
  refine ai (sr (fl MY ?_));refine fr 1 ?_;refine lo bW ?_;refine aq (nt ?_);refine aE (Z:=Unit) (α:=Int) (λO D=>[(0,Pt c),(5,Pt b1),(7,.at (.arr 7 Tr) r2),(8,.eq (.map (some z4))),(9,Pt b5),(10,I D)]) (λO D=>[.obj c 135 (ba a0 z_a0),.obj b1 110 (.agg (.pair (I y6.1) (I y6.2.1))),.obj b5 110 (.agg (.pair (I (-1:Int)) (I 0))),.inv z_a0 (co k a0),.inv z4 (uE y6.2.2)]) h (λK h=>?_) (λO D h=>?_)
  .refine ai (aD (λM s=>[(0,Pt c),(5,Pt b1),(7,.at (.arr 7 Tr) r2),(8,.eq (.map (some z4))),(9,Pt b5),(10,I s)]) (λM s=>[.obj c 135 (ba a0 z_a0),.obj b1 110 (.agg (.pair (I y6.1) (I y6.2.1))),.obj b5 110 (.agg (.pair (I (-1:Int)) (I 0))),.inv z_a0 (co k a0),.inv z4 (uE y6.2.2)]) (ib k r2 y6) k () y6.2.1 (λ_=>rfl) h (SE.fin [1,0,2,3,4] ⟨rfl,rfl,rfl,rfl,rfl,rfl,trivial⟩ rfl) (λn M s h=>?_));unfold ib at h;refine aj (aE (Z:=Unit) (α:=Bool) (λJ y=>[(0,Pt c),(5,Pt b1),(7,.at (.arr 7 Tr) r2),(8,.eq (.map (some z4))),(9,Pt b5),(10,I s),(30,.eq (.bool y))]) (λJ y=>[.obj c 135 (ba a0 z_a0),.obj b1 110 (.agg (.pair (I y6.1) (I y6.2.1))),.obj b5 110 (.agg (.pair (I (-1:Int)) (I 0))),.inv z_a0 (co k a0),.inv z4 (uE y6.2.2)]) h (λK h=>?_) (λJ y h=>?_))
   .refine bL ?_;refine dm ?_;refine db (jp rfl) ?_;refine lK rfl rfl rfl (aW rfl) ⟨rfl,trivial⟩ (λhb=>?_) (λhb=>?_)
    .replace h:=eh (wi hb) h;refine bo rfl rfl rfl rfl rfl (aW rfl) ⟨rfl,rfl,trivial⟩ ?_;obtain⟨WX,Ws,h⟩:=aa h;refine bo rfl rfl rfl rfl rfl (eC rfl Ws) ⟨rfl,rfl,rfl,trivial⟩ ?_;refine bo rfl rfl rfl rfl rfl (au rfl zB) ⟨rfl,rfl,trivial⟩ ?_;refine ig 1 rfl rfl rfl rfl rfl rfl (ao rfl bW jr rfl) ⟨rfl,rfl,trivial⟩ ?_;obtain⟨WW,Wq,h⟩:=aa h;refine bo rfl rfl rfl rfl rfl (cE (t:=Tr) rfl KI jU Wq) ⟨rfl,rfl,rfl,trivial⟩ ?_;refine df cU ?_;obtain⟨WA,Wp,h⟩:=aa h;refine gb (cE (t:=Ti) rfl Ee bW Wp) ?_;refine ga (an (t:=Ti) rfl bW rfl) ?_;refine gb (iQ rfl) ?_;refine pt (nl ?_);exact jz ((),decide (0≤WA)) h [0,1,2,3,4]
    .replace h:=cH (wj hb) h;iterate 5 refine dg ?_
     refine df cU ?_;iterate 3 refine gn ?_
     refine pf (nl ?_);exact jz ((),false) h [0,1,2,3,4]
   .refine cv h (λh=>?_) (λh=>?_)
    .refine sk (ai (ae (mq ?_)));obtain⟨Wz,Wn,h⟩:=aa h;refine jb (eC rfl Wn) ?_;refine aq (aG (bn ?_));exact jz ((),Wz) h [0,1,2,3,4]
    .refine xa ?_;exact jz ((),s) h [0,1,2,3,4]
  .refine aj (sr (mq ?_));refine jb (jG rfl) ?_;refine nt (ci h (λh=>?_) (λh=>?_))
   .refine sr (mq ?_);refine fr 1 ?_;refine lo kG ?_;refine fr 2 ?_;refine lo kG ?_;refine eE (dL (t:=bV) (x:=(y6.1,y6.2.1)) 36 rfl (.agg (.pair .int .int)) trivial rfl) ?_;obtain⟨Xc,Wu,h⟩:=aa h;refine eE (dL (t:=bV) (x:=((-1:Int),0)) 37 rfl (.agg (.pair .int .int)) trivial rfl) ?_;refine fr 4 ?_;refine aP rfl rfl (sE (K:=lV) (V:=lV) (t:=(y6.1,y6.2.1)) (n:=((-1:Int),0)) (l:=y6.2.2) (λ_ _ _ h=>oe h) rfl GX nE (λ_ _ _ h=>oe h) (sb (ap Wu)) (sa _) sc) ⟨rfl,rfl,rfl,trivial⟩ ?_;refine nt (sr (mq ?_));refine aq (nt (rx (br (bb ?_))));refine bC (SE.fin (Γ':=[(6,_)]) [0,3,4,1,2] ⟨rfl,trivial⟩ rfl) ?_;obtain rfl:=hR _ h;exact aQ z4 [.eq (.map (some z4))] 3 ⟨rfl,trivial⟩ rfl
   .refine sk (aj (qc ?_));refine bT rfl rfl rfl (aW rfl) ⟨rfl,trivial⟩ ?_;refine bT rfl rfl rfl (aW rfl) ⟨rfl,trivial⟩ ?_;obtain⟨WU,zz,h⟩:=aa h;refine bT rfl rfl rfl (eC rfl zz) ⟨rfl,rfl,trivial⟩ ?_;obtain⟨Wy,qt,h⟩:=aa h;refine bT rfl rfl rfl (cE (t:=Tr) rfl KI jU qt) ⟨rfl,rfl,trivial⟩ ?_;refine bT rfl rfl rfl (an (t:=Tr) rfl jU rfl) ⟨rfl,trivial⟩ ?_;refine bT rfl rfl rfl (au rfl zB) ⟨rfl,trivial⟩ ?_;refine hJ 1 rfl rfl rfl rfl (ao rfl bW jr rfl) ⟨rfl,trivial⟩ ?_;refine bT rfl rfl rfl (aW rfl) ⟨rfl,trivial⟩ ?_;obtain⟨Wx,mw,h⟩:=aa h;refine bT rfl rfl rfl (eC rfl mw) ⟨rfl,rfl,trivial⟩ ?_;obtain⟨j,Wv,h⟩:=aa h;refine hJ 0 rfl rfl rfl rfl (av [.tmp 39,.tmp 43,.tmp 45,.tmp 47] rfl rfl OG rfl (oY k a0 c z_a0 Wy y6.1 Wx j Wv)) ⟨rfl,rfl,rfl,rfl,trivial⟩ ?_;refine bT rfl rfl rfl (aW rfl) ⟨rfl,trivial⟩ ?_;obtain⟨u,mc,h⟩:=aa h;refine bT rfl rfl rfl (eC rfl mc) ⟨rfl,rfl,trivial⟩ ?_;refine bT rfl rfl rfl (eH [(0,.tmp 48,_),(1,.tmp 50,_)] rfl Io ul D9 (kH ⟨rfl,rfl,trivial⟩) rfl) ⟨rfl,rfl,trivial⟩ ?_;refine FC (Lx 110 (.agg (.pair (I 0) (I 0)))) (λ_=>rfl) rfl rfl rfl (bA rfl ul BU) trivial ?_;refine uk 14 [true,true,true,true,true,true,true,true,true,true,true,true,true,true] [] [] [] rfl (by kernel_rfl) (by kernel_rfl) (by kernel_rfl) cU (λvs hv hB=>?_);obtain⟨w0,Xa,rfl,WM⟩:=aF hv;obtain⟨w1,W9,rfl,WL⟩:=aF WM;obtain⟨w2,W8,rfl,WJ⟩:=aF WL;obtain⟨w3,W7,rfl,WI⟩:=aF WJ;obtain⟨w4,W6,rfl,WH⟩:=aF WI;obtain⟨w5,W5,rfl,WG⟩:=aF WH;obtain⟨w6,W4,rfl,WE⟩:=aF WG;obtain⟨w7,W3,rfl,WC⟩:=aF WE;obtain⟨w8,W2,rfl,WB⟩:=aF WC;obtain⟨w9,WT,rfl,gw⟩:=aF WB;obtain⟨W1,WS,rfl,Y⟩:=aF gw;obtain⟨W0,WR,rfl,X⟩:=aF Y;obtain⟨WZ,WQ,rfl,U⟩:=aF X;obtain⟨WY,WP,rfl,Q⟩:=aF U;obtain rfl:=qq Q;obtain⟨E,rfl⟩:=Ij hB.2.2.2.2.2.2.2.2.2.2.2.2.2.1;refine⟨[0,1,2,3,4,5],[.obj c 135 (ba a0 z_a0),.obj b1 110 (.agg (.pair (I y6.1) (I y6.2.1))),.obj b5 110 (.agg (.pair (I (-1:Int)) (I 0))),.inv z_a0 (co k a0),.inv z4 (uE y6.2.2),.obj E 110 (.agg (.pair (I 0) (I 0)))],by kernel_rfl,by decide,?_⟩;refine pZ 5 rfl ?_;refine uh rfl rfl (aN rfl kG trivial rfl rfl) ⟨rfl,rfl,trivial⟩ (by kernel_rfl) ?_;refine wH ?_;refine bC (SE.fin (Γ':=[(0,Pt c),(5,Pt b1),(7,.at (.arr 7 Tr) r2),(8,.eq (.map (some z4))),(9,Pt b5),(11,Pt E)]) (Δ':=[.obj E 110 (.agg (.pair (I j) (I u))),.obj c 135 (ba a0 z_a0),.obj b1 110 (.agg (.pair (I y6.1) (I y6.2.1))),.obj b5 110 (.agg (.pair (I (-1:Int)) (I 0))),.inv z_a0 (co k a0),.inv z4 (uE y6.2.2)]) [0,1,2,3,4,5] ⟨rfl,rfl,rfl,rfl,rfl,rfl,trivial⟩ rfl) ?_;refine tn (sr (mq ?_));refine fr 2 ?_;refine lo kG ?_;refine fr 1 ?_;refine lo kG ?_;refine eE (dL (t:=bV) (x:=(y6.1,y6.2.1)) 53 rfl (.agg (.pair .int .int)) trivial rfl) ?_;obtain⟨Xb,Wt,h⟩:=aa h;refine eE (dL (t:=bV) (x:=(j,u)) 54 rfl (.agg (.pair .int .int)) trivial rfl) ?_;refine fr 5 ?_;refine aP rfl rfl (sE (K:=lV) (V:=lV) (t:=(y6.1,y6.2.1)) (n:=(j,u)) (l:=y6.2.2) (λ_ _ _ h=>oe h) rfl GX nE (λ_ _ _ h=>oe h) (sb (ap Wt)) (sa _) sc) ⟨rfl,rfl,rfl,trivial⟩ ?_
    refine nt (ae (fr 1 ?_));refine lo kG ?_;refine fr 2 ?_;refine aP rfl rfl (aN rfl kG trivial rfl rfl) ⟨rfl,rfl,trivial⟩ ?_;refine aG (bn ?_);exact jz ((),(j,u,DC y6.2.2 (y6.1,y6.2.1) (j,u))) h [3,0,4,5,2]
 .
  refine ax ?_;exact jz ((),(x8.1,x8.2.1,x8.2.2)) h [0,1,2,3,4]
def lG(k:Nat)(r7:(List (fV×fV))):Nat->(Int×Int×(List Int))->Option (List Int)
 |0,_=>none
 |n+1,c=>
  (bR (As (c.1,c.2.1))).bind λ_=>
  if¬((oD r7 (c.1,c.2.1) (0,0))=((-1:Int),0)) then((bR (As (c.1,c.2.1))).bind λ_=>
  (bR (be (length c.2.2+length [(oD r7 (c.1,c.2.1) (0,0)).1]))).bind λ_=>
  (bR (As (c.1,c.2.1))).bind λ_=>
  lG k r7 n ((oD r7 (c.1,c.2.1) (0,0)).1,(oD r7 (c.1,c.2.1) (0,0)).2,c.2.2++[(oD r7 (c.1,c.2.1) (0,0)).1])) else(some c.2.2)
def tO(k:Nat)(a0:ab)(a1:(List Int))(a2:Int):Option ((List Int)×Int):=
 (kL k a0 a1 [a2] ([]:(List Int)) ([]:(List Int))).bind λr2=>
 gy r2.1 (if¬(r2.2.2=0) then(some (([]:(List Int)),r2.2.2)) else(none)) (λq3=>if¬(r2.2.2=0) then(some (([]:(List Int)),r2.2.2)) else((jg k q3 r2.2.1 a2).bind λr5=>
 if r5 < 0 then(some (([]:(List Int)),11)) else((mm k q3 r2.2.1 (a2,r5)).bind λr7=>
 ((lG k r7 k (a2,r5,[a2])):Option ((List Int))).bind λc=>
 (lg k c).bind λe=>
 some (e,0))))
theorem zk(k:Nat)(a0:ab)(a1:(List Int))(a2:Int)(r:(List Int)×Int)(h:tO k a0 a1 a2=some r):
 cu (ew Tryz.prog) 38 [.rep am a0,.rep Tl a1,I a2] [] (λ_:Unit=>(bu [.rep Tl r.1,I r.2],[])):=by
 unfold tO at h
 replace h:=aS h
 refine cu.of 64 Tryz.func38 rfl Tryz.ntmps38 rfl λS w0=>?_
 refine sr ?_
 refine bx λb1=>?_
 refine cq ?_
 refine cq ?_
 refine nt ?_
 refine sr ?_
 refine lo dp ?_
 iterate 2 refine mq ?_
 refine ja (aX (t:=Ti) [(.tmp 19,_)] [a2] rfl rfl cY (.cons rfl .int .nil) rfl rfl) ?_
 obtain⟨r2,Y,h⟩:=aa h
 have u:=m9 k a0 a1 [a2] ([]:(List Int)) ([]:(List Int)) r2 Y
 rcases hr:r2.1 with _ |q3
 .
  rw [hr] at h u;replace h:=wn h;refine aO (Δ:=[]) (F:=_) (λ_ _ _=>ah rfl _) rfl rfl (bH (N:=[(.tmp 17,.rep am a0),(.tmp 18,.rep Tl a1),(.tmp 20,.rep Tl [a2]),(.const (.slice none 0 0),.eq (.slice none 0 0)),(.const (.slice none 0 0),.eq (.slice none 0 0))]) (bj [.tmp 17,.tmp 18,.tmp 20,.const (.slice none 0 0),.const (.slice none 0 0)] rfl rfl BB rfl u) λ_ _ _ hn=>⟨hn.1,hn.2.1,hn.2.2.1,(aI (t:=Tl) (x:=([]:(List Int))) .nil rfl rfl hn.2.2.2.1),(aI (t:=Tl) (x:=([]:(List Int))) .nil rfl rfl hn.2.2.2.2.1),trivial⟩) ⟨rfl,rfl,rfl,rfl,rfl,trivial⟩ λ_=>?_;refine mq ?_;refine xr ?_;refine xr ?_;refine xr ?_;refine aq ?_;refine aq ?_;refine aq (nt (aj (sr ?_)));refine mq ?_;refine jb (dV rfl) ?_;refine nt (cn h (λh=>?_) (λh=>?_))
  .refine sr (mq ?_);refine cq ?_;refine aq (nt (rx ?_));refine bC (dL (t:=Tl) (x:=([]:(List Int))) 6 rfl .nil rfl rfl) ?_;cases h;exact rb
  .cases h
 .
  rw [hr] at h u;replace h:=wl h;refine aO (Δ:=[]) (F:=_) (λ_ _ _=>ah rfl _) rfl rfl (bH (N:=[(.tmp 17,.rep am a0),(.tmp 18,.rep Tl a1),(.tmp 20,.rep Tl [a2]),(.const (.slice none 0 0),.eq (.slice none 0 0)),(.const (.slice none 0 0),.eq (.slice none 0 0))]) (bj [.tmp 17,.tmp 18,.tmp 20,.const (.slice none 0 0),.const (.slice none 0 0)] rfl rfl BB rfl u) λ_ _ _ hn=>⟨hn.1,hn.2.1,hn.2.2.1,(aI (t:=Tl) (x:=([]:(List Int))) .nil rfl rfl hn.2.2.2.1),(aI (t:=Tl) (x:=([]:(List Int))) .nil rfl rfl hn.2.2.2.2.1),trivial⟩) ⟨rfl,rfl,rfl,rfl,rfl,trivial⟩ λz4=>?_;refine mq ?_;refine xr ?_;refine xr ?_;refine xr ?_;refine aq ?_;refine aq ?_;refine aq (nt (aj (sr ?_)));refine mq ?_;refine jb (dV rfl) ?_;refine nt (cn h (λh=>?_) (λh=>?_))
  .refine sr (mq ?_);refine cq ?_;refine aq (nt (rx ?_));refine bC (dL (t:=Tl) (x:=([]:(List Int))) 6 rfl .nil rfl rfl) ?_;cases h;exact rb
  .refine sk (sr ?_);iterate 3 refine mq ?_
   obtain⟨r5,X,h⟩:=aa h;refine fr 1 ?_;refine fr 1 ?_;refine aO (Δ:=[_,_]) (F:=_) (λ_ _ _=>ah rfl _) rfl rfl (bj [.tmp 28,.tmp 29,.tmp 30] rfl rfl SS rfl (mj k q3 z4.1 z4.2 r2.2.1 a2 r5 X)) ⟨rfl,rfl,rfl,trivial⟩ λ_=>?_;refine aq (nt (aj (sr ?_)));refine mq ?_;refine jb (bp rfl) ?_;refine nt (ci h (λh=>?_) (λh=>?_))
   .refine sr (cq ?_);refine cq (nt (rx ?_));refine bC (dL (t:=Tl) (x:=([]:(List Int))) 6 rfl .nil rfl rfl) ?_;cases h;exact rb
   .refine sk (sr ?_);iterate 2 refine mq ?_
    refine jb (eH [(0,.tmp 34,_),(1,.tmp 35,_)] rfl Io ul D9 (kH ⟨rfl,rfl,trivial⟩) rfl) ?_;refine aY rfl rfl rfl (bA rfl ul BU) trivial λb6=>?_;refine aP rfl rfl (aN rfl kG trivial rfl rfl) ⟨rfl,rfl,trivial⟩ ?_;refine nt (sr ?_);iterate 2 refine mq ?_
    refine lo kG ?_;obtain⟨r7,U,h⟩:=aa h;refine fr 2 ?_;refine fr 2 ?_;refine aO (Δ:=[_,_]) (F:=_) (λ_ _ _=>ah rfl _) rfl rfl (bH (N:=[(.tmp 37,.eq (.pointer (some ⟨z4.1,0,none⟩))),(.tmp 38,.eq (.int .u8 r2.2.1)),(.tmp 39,.agg (.pair (I a2) (I r5)))]) (bj [.tmp 37,.tmp 38,.tmp 39] rfl rfl Ve rfl (sN k q3 z4.1 z4.2 r2.2.1 (a2,r5) r7 U)) λ_ _ _ hn=>⟨hn.1,hn.2.1,(aI (t:=bV) (x:=(a2,r5)) (.agg (.pair .int .int)) trivial rfl hn.2.2.1),trivial⟩) ⟨rfl,rfl,rfl,trivial⟩ λz8=>?_;refine aq (nt (sr ?_));refine mq ?_;refine aY rfl rfl rfl (iq (t:=Ti) [(.tmp 41,_)] [a2] rfl rfl cY (.cons rfl .int .nil) rfl rfl) ⟨rfl,trivial⟩ λv9=>?_;refine aq (nt ?_);refine aE (Z:=Value) (α:=(List Int)) (λj s=>[(13,.eq (.map (some z8))),(14,.eq j)]) (λj s=>[.sl j 3 Ti s,.inv z4.2 (co k q3),.inv z8 (uE r7)]) h (λK h=>?_) (λj s h=>?_)
    .refine sr (ja (eH [(0,.const (.int .i64 (-1)),_)] rfl Io ul D9 (kH ⟨rfl,trivial⟩) rfl) ?_);refine aY rfl rfl rfl (bA rfl ul BU) trivial λmc=>?_;refine aP rfl rfl (aN rfl kG trivial rfl rfl) ⟨rfl,rfl,trivial⟩ ?_;refine nt (ai (aD (λe c=>[(12,Pt b6),(13,.eq (.map (some z8))),(14,.eq e.1),(15,.eq (.pointer (some ⟨e.2,0,none⟩)))]) (λe c=>[.obj b6 110 (.agg (.pair (I c.1) (I c.2.1))),.sl e.1 3 Ti c.2.2,.obj e.2 110 (.agg (.pair (I (-1:Int)) (I 0))),.inv z4.2 (co k q3),.inv z8 (uE r7)]) (lG k r7) k (v9,mc) (a2,r5,[a2]) (λ_=>rfl) h (SE.fin [5,1,0,4,2] ⟨rfl,rfl,rfl,rfl,trivial⟩ rfl) (λn e c h=>?_)));unfold lG at h;refine aj (aj (bL ?_));refine dm ?_;refine ea 0 (ao rfl kG (qp) rfl) ?_;obtain⟨zz,J,h⟩:=aa h;refine eb 4 (bH (N:=[(.tmp 44,.eq (.map (some z8))),(.tmp 45,.agg (.pair (I c.1) (I c.2.1)))]) (tz (K:=lV) (V:=lV) (t:=(c.1,c.2.1)) (l:=r7) (λn=>.rep bV n) vi rfl GX (0,0) vh nE (λ_ _ _ h=>oe h) (sb (ap J)) (sa _) sc) λ_ _ _ hn=>⟨hn.1,(aI (t:=bV) (x:=(c.1,c.2.1)) (.agg (.pair .int .int)) trivial rfl hn.2.1),trivial⟩) ?_;refine ea 2 (ao rfl kG (qp) rfl) ?_;refine df cU ?_;refine eE (dL (t:=bV) (x:=((-1:Int),0)) 47 rfl (.agg (.pair .int .int)) trivial rfl) ?_;refine jb (Iu rfl SK rfl) ?_;refine nt (cn h (λh=>?_) (λh=>?_))
     .refine sk (aj (ai (ae ?_)));iterate 2 refine mq ?_
      refine lo kG ?_;refine eE (dL (t:=bV) (x:=(c.1,c.2.1)) 54 rfl (.agg (.pair .int .int)) trivial rfl) ?_;obtain⟨u16,E,h⟩:=aa h;refine fr 4 ?_;refine kb (bH (N:=[(.tmp 53,.eq (.map (some z8))),(.tmp 54,.rep bV (c.1,c.2.1))]) (tz (K:=lV) (V:=lV) (t:=(c.1,c.2.1)) (l:=r7) (λn=>.rep bV n) vi rfl GX (0,0) vh nE (λ_ _ _ h=>oe h) (sb (ap E)) (sa _) sc) λ_ _ _ hn=>⟨hn.1,hn.2.1,trivial⟩) ?_;refine ja (LL rfl VL rfl bW (λ_=>rfl) rfl rfl rfl) ?_;refine ja (aX (t:=Ti) [(.tmp 56,_)] [(oD r7 (c.1,c.2.1) (0,0)).1] rfl rfl cY (.cons rfl .int .nil) rfl rfl) ?_;obtain⟨qt,D,h⟩:=aa h;refine fr 2 ?_;refine cQ rfl rfl rfl (bq rfl rfl cY (ap D)) ⟨rfl,rfl,trivial⟩ λO=>?_;refine aq (aG (aK (tn (aj (sr ?_)))));refine fr 3 ?_;refine lo kG ?_;refine nt (ae (aY rfl rfl rfl (bA rfl ul BU) trivial λgw=>?_));refine aP rfl rfl (aN rfl kG trivial rfl rfl) ⟨rfl,rfl,trivial⟩ ?_;refine nt (ae (mq ?_));refine fr 4 ?_;refine lo kG ?_;refine eE (dL (t:=bV) (x:=(c.1,c.2.1)) 50 rfl (.agg (.pair .int .int)) trivial rfl) ?_;obtain⟨mw,y,h⟩:=aa h;refine fr 4 ?_;refine kb (bH (N:=[(.tmp 49,.eq (.map (some z8))),(.tmp 50,.rep bV (c.1,c.2.1))]) (tz (K:=lV) (V:=lV) (t:=(c.1,c.2.1)) (l:=r7) (λn=>.rep bV n) vi rfl GX (0,0) vh nE (λ_ _ _ h=>oe h) (sb (ap y)) (sa _) sc) λ_ _ _ hn=>⟨hn.1,hn.2.1,trivial⟩) ?_;refine fr 1 ?_;refine aP rfl rfl (aN rfl kG rfl rfl rfl) ⟨rfl,rfl,trivial⟩ ?_;refine nl (bC (iJ (a:=.rep bV (oD r7 (c.1,c.2.1) (0,0))) (a':=.agg (.pair (I ((oD r7 (c.1,c.2.1) (0,0)).1)) (I ((oD r7 (c.1,c.2.1) (0,0)).2)))) (AE.trans FN (AE.agg (AE.trans Cj (AE.pair AE.int AE.int))))) ?_);exact jz ((O,gw),((oD r7 (c.1,c.2.1) (0,0)).1,(oD r7 (c.1,c.2.1) (0,0)).2,c.2.2++[(oD r7 (c.1,c.2.1) (0,0)).1])) h [0,4,2,5,1]
     .refine xa ?_;exact jz (e.1,c.2.2) h [1,3,4]
    .refine sr (mq ?_);refine fr 2 ?_;refine aP rfl rfl (Iz rfl rfl GX) ⟨rfl,trivial⟩ ?_;refine nt (sr (mq ?_));obtain⟨Q,M,h⟩:=aa h;refine fr 1 ?_;refine ka (av [.tmp 61] rfl rfl Vb rfl (qZ k s j Q M)) ?_;refine nt (sr (mq ?_));refine aq ?_;refine cq (nt (aA ?_));refine bC (gB [6,14,61,63] ⟨rfl,rfl,rfl,rfl,trivial⟩) ?_;cases h;exact rb
def lF(k:Nat)(a1:Int)(r3:(Option ab)×(List Int)×Int)(q4:ab):Nat->((List Int)×Int)->Option (List Int)
 |0,_=>none
 |n+1,y8=>
  if y8.2 < (r3.2.1.length:Int) then((((aH r3.2.1 y8.2).bind λh=>
  (jg k q4 h a1).bind λc=>
  if 0≤c then((bR (be (length y8.1+length [c]))).bind λ_=>
  some (y8.1++[c])) else(some y8.1)):Option ((List Int))).bind λj=>
  (ck (y8.2+1)).bind λe=>
  lF k a1 r3 q4 n (j,e)) else(some y8.1)
def tN(k:Nat)(a0:ab)(a1:Int):Option (fV×Int):=
 (jt k a0 [a1] ([]:(List Int)) ([]:(List Int))).bind λr3=>
 gy r3.1 (if¬(r3.2.2=0) then(some ((0,0),r3.2.2)) else(none)) (λq4=>if¬(r3.2.2=0) then(some ((0,0),r3.2.2)) else(((lF k a1 r3 q4 k (([]:(List Int)),0)):Option ((List Int))).bind λx6=>
 if(x6.length:Int)=0 then(some ((0,0),11)) else((mT k x6).bind λe=>
 (pm k x6).bind λc=>
 some ((e,c),0))))
theorem zh(k:Nat)(a0:ab)(a1:Int)(r:fV×Int)(h:tN k a0 a1=some r):
 cu (ew Tryz.prog) 42 [.rep am a0,I a1] [] (λ_:Unit=>(bu [.rep bV r.1,I r.2],[])):=by
 unfold tN at h
 replace h:=aS h
 refine cu.of 51 Tryz.func42 rfl Tryz.ntmps42 rfl λS w0=>?_
 refine sr ?_
 refine bx λb1=>?_
 refine aY rfl rfl rfl (bA rfl CL TO) trivial λb2=>?_
 refine cq ?_
 refine nt ?_
 refine sr ?_
 refine fr 1 ?_
 refine lo dp ?_
 refine mq ?_
 refine ja (aX (t:=Ti) [(.tmp 15,_)] [a1] rfl rfl cY (.cons rfl .int .nil) rfl rfl) ?_
 obtain⟨r3,Y,h⟩:=aa h
 have s:=lD k a0 [a1] ([]:(List Int)) ([]:(List Int)) r3 Y
 rcases hr:r3.1 with _ |q4
 .
  rw [hr] at h s;replace h:=wn h;refine aO (Δ:=[]) (F:=_) (λ_ _ _=>ah rfl _) rfl rfl (bH (N:=[(.tmp 14,.rep am a0),(.tmp 16,.rep Tl [a1]),(.const (.slice none 0 0),.eq (.slice none 0 0)),(.const (.slice none 0 0),.eq (.slice none 0 0))]) (bj [.tmp 14,.tmp 16,.const (.slice none 0 0),.const (.slice none 0 0)] rfl rfl BA rfl s) λ_ _ _ hn=>⟨hn.1,hn.2.1,(aI (t:=Tl) (x:=([]:(List Int))) .nil rfl rfl hn.2.2.1),(aI (t:=Tl) (x:=([]:(List Int))) .nil rfl rfl hn.2.2.2.1),trivial⟩) ⟨rfl,rfl,rfl,rfl,trivial⟩ λ_=>?_;refine mq ?_;refine xr ?_;refine xr ?_;refine xr ?_;refine aq ?_;refine aq ?_;refine aq (nt (aj (sr ?_)));refine mq ?_;refine jb (dV rfl) ?_;refine nt (cn h (λh=>?_) (λh=>?_))
  .refine sr (cp rfl (eH [] rfl Im CL BS (kH trivial) rfl) trivial ?_);refine mq ?_;refine fr 1 ?_;refine aP rfl rfl (aN rfl wY trivial rfl rfl) ⟨rfl,rfl,trivial⟩ ?_;refine aq (nt (rx ?_));refine bC (iJ (a:=.agg (.pair (I 0) (I 0))) (a':=.rep bV (0,0)) (kw (.agg (.pair .int .int)))) ?_;cases h;exact aQ () [.rep bV (0,0),_] 0 ⟨⟨_,_,_,_,_,rfl,(.head _),wY,(qp),rfl⟩,rfl,trivial⟩ rfl
  .cases h
 .
  rw [hr] at h s;replace h:=wl h;refine aO (Δ:=[]) (F:=_) (λ_ _ _=>ah rfl _) rfl rfl (bH (N:=[(.tmp 14,.rep am a0),(.tmp 16,.rep Tl [a1]),(.const (.slice none 0 0),.eq (.slice none 0 0)),(.const (.slice none 0 0),.eq (.slice none 0 0))]) (bj [.tmp 14,.tmp 16,.const (.slice none 0 0),.const (.slice none 0 0)] rfl rfl BA rfl s) λ_ _ _ hn=>⟨hn.1,hn.2.1,(aI (t:=Tl) (x:=([]:(List Int))) .nil rfl rfl hn.2.2.1),(aI (t:=Tl) (x:=([]:(List Int))) .nil rfl rfl hn.2.2.2.1),trivial⟩) ⟨rfl,rfl,rfl,rfl,trivial⟩ λz5=>?_;refine mq ?_;refine xr ?_;refine xr ?_;refine xr ?_;refine aq ?_;refine aq ?_;refine aq (nt (aj (sr ?_)));refine mq ?_;refine jb (dV rfl) ?_;refine nt (cn h (λh=>?_) (λh=>?_))
  .refine sr (cp rfl (eH [] rfl Im CL BS (kH trivial) rfl) trivial ?_);refine mq ?_;refine fr 3 ?_;refine aP rfl rfl (aN rfl wY trivial rfl rfl) ⟨rfl,rfl,trivial⟩ ?_;refine aq (nt (rx ?_));refine bC (iJ (a:=.agg (.pair (I 0) (I 0))) (a':=.rep bV (0,0)) (kw (.agg (.pair .int .int)))) ?_;cases h;exact aQ () [.rep bV (0,0),_] 0 ⟨⟨_,_,_,_,_,rfl,(.head _),wY,(qp),rfl⟩,rfl,trivial⟩ rfl
  .refine sk (sr (cq (nt ?_)));refine aE (Z:=Value) (α:=(List Int)) (λz7 x6=>[(4,Pt b2),(9,.eq z7)]) (λz7 x6=>[.obj b2 67 (.agg (.pair (I 0) (I 0))),.sl z7 3 Ti x6,.inv z5.2 (co k q4)]) h (λK h=>?_) (λz7 x6 h=>?_)
   .refine sr (mq ?_);refine ol xw ?_;refine fM rfl ?_;refine nt (ai (iC (SE.nil 3 Ti) ?_));refine aD (λz9 y8=>[(1,I a1),(4,Pt b2),(6,.eq (.pointer (some ⟨z5.1,0,none⟩))),(9,.eq z9),(25,.rep (.slice (.int .u8)) r3.2.1),(26,I (r3.2.1.length:Int)),(27,I y8.2)]) (λz9 y8=>[.obj b2 67 (.agg (.pair (I 0) (I 0))),.obj z5.1 135 (ba q4 z5.2),.sl z9 3 Ti y8.1,.inv z5.2 (co k q4)]) (lF k a1 r3 q4) k (.slice none 0 0) (([]:(List Int)),0) (λ_=>rfl) h (SE.fin [4,1,0,2] ⟨rfl,rfl,rfl,rfl,rfl,rfl,rfl,trivial⟩ rfl) (λn z9 y8 h=>?_);unfold lF at h;refine sr (jb (bp rfl) ?_);refine nt (aj (ci h (λh=>?_) (λh=>?_)))
    .refine sk (aE (Z:=Value) (α:=(List Int)) (λc e=>[(1,I a1),(4,Pt b2),(6,.eq (.pointer (some ⟨z5.1,0,none⟩))),(9,.eq c),(25,.rep (.slice (.int .u8)) r3.2.1),(26,I (r3.2.1.length:Int)),(27,I y8.2)]) (λc e=>[.obj b2 67 (.agg (.pair (I 0) (I 0))),.obj z5.1 135 (ba q4 z5.2),.sl c 3 Ti e,.inv z5.2 (co k q4)]) h (λK h=>?_) (λc e h=>?_))
     .refine ai (sr ?_);obtain⟨U,D,h⟩:=aa h;refine jb (aC (t:=(.int .u8)) rfl xw np D) ?_;refine ja (an (t:=(.int .u8)) rfl np rfl) ?_;refine aq (nt (sr ?_));iterate 3 refine mq ?_
      obtain⟨u,O,h⟩:=aa h;refine fr 3 ?_;refine fr 2 ?_;refine aO (Δ:=[_,_]) (F:=_) (λ_ _ _=>ah rfl _) rfl rfl (bj [.tmp 31,.tmp 32,.tmp 33] rfl rfl SS rfl (mj k q4 z5.1 z5.2 U a1 u O)) ⟨rfl,rfl,rfl,trivial⟩ λ_=>?_;refine aq (nt (sr ?_));refine mq ?_;refine jb (iQ rfl) ?_;refine nt (ci h (λh=>?_) (λh=>?_))
      .refine ae ?_;iterate 2 refine mq ?_
       refine ja (aX (t:=Ti) [(.tmp 38,_)] [u] rfl rfl cY (.cons rfl .int .nil) rfl rfl) ?_;obtain⟨gw,E,h⟩:=aa h;refine fr 3 ?_;refine cQ rfl rfl rfl (bq rfl rfl cY (ap E)) ⟨rfl,rfl,trivial⟩ λX=>?_;refine aq (aG (bn ?_));exact jz (X,y8.1++[u]) h [3,1,0,2]
      .refine aZ (bn ?_);exact jz (z9,y8.1) h [2,0,3,1]
     .refine ae ?_;obtain⟨Q,y,h⟩:=aa h;refine jb (bi rfl y) ?_;refine mq (nl ?_);exact jz (c,(e,Q)) h [0,1,2,3]
    .refine xa ?_;exact jz (z9,y8.1) h [0,2,3]
   .refine aj (sr (mq ?_));refine fr 1 ?_;refine ka (nN rfl rfl gG) ?_;refine jb (jG rfl) ?_;refine nt (ci h (λh=>?_) (λh=>?_))
    .refine sr (cp rfl (eH [] rfl Im CL BS (kH trivial) rfl) trivial ?_);refine fr 1 ?_;refine aP rfl rfl (aN rfl wY trivial rfl rfl) ⟨rfl,rfl,trivial⟩ ?_;refine cq (nt (rx ?_));refine bC (iJ (a:=.agg (.pair (I 0) (I 0))) (a':=.rep bV (0,0)) (kw (.agg (.pair .int .int)))) ?_;cases h;exact aQ () [.rep bV (0,0),_] 0 ⟨⟨_,_,_,_,_,rfl,(.head _),wY,(qp),rfl⟩,rfl,trivial⟩ rfl
    .refine sk (sr (mq ?_));obtain⟨l,M,h⟩:=aa h;refine ka (ko (N:=[(.tmp 46,.eq z7)]) (av [.tmp 46] rfl rfl S5 rfl (pj k x6 l M)) (λ_ _ _ hv hn=>⟨(lend hn.1 hv),trivial⟩) (λ_=>⟨rfl,nV⟩)) ?_;refine mq ?_;obtain⟨j,J,h⟩:=aa h;refine ka (ko (N:=[(.tmp 48,.eq z7)]) (av [.tmp 48] rfl rfl Va rfl (vn k x6 j J)) (λ_ _ _ hv hn=>⟨(lend hn.1 hv),trivial⟩) (λ_=>⟨rfl,nV⟩)) ?_;refine jb (eH [(0,.tmp 47,_),(1,.tmp 49,_)] rfl Im CL BS (kH ⟨rfl,rfl,trivial⟩) rfl) ?_;refine fr 1 ?_;refine aP rfl rfl (aN rfl wY trivial rfl rfl) ⟨rfl,rfl,trivial⟩ ?_;refine cq (nt (aA ?_));refine bC (iJ (a:=.agg (.pair (I l) (I j))) (a':=.rep bV (l,j)) (kw (.agg (.pair .int .int)))) ?_;cases h;exact aQ () [.rep bV (l,j),_] 0 ⟨⟨_,_,_,_,_,rfl,(.head _),wY,(qp),rfl⟩,rfl,trivial⟩ rfl
def kA(k:Nat)(a1:Int)(a2:Int)(y4:(List (List (List Int)))×Int)(h:(List Int)):Nat->((List Int)×Int)->Option (List Int)
 |0,_=>none
 |n+1,c=>
  if c.2 < (h.length:Int) then((((aH h c.2).bind λe=>
  ((if y4.2 < a1 then(some true) else((fu k a2 e).bind λs=>
  some (!s))):Option (Bool)).bind λl=>
  if l=true then((bR (be (length c.1+length [e]))).bind λ_=>
  some (c.1++[e])) else(some c.1)):Option ((List Int))).bind λr=>
  (ck (c.2+1)).bind λj=>
  kA k a1 a2 y4 h n (r,j)) else(some c.1)
def kB(k:Nat)(a1:Int)(a2:Int)(y4:(List (List (List Int)))×Int)(x8:(List (List Int))):Nat->((List (List Int))×Int)->Option (List (List Int))
 |0,_=>none
 |n+1,c=>
  if c.2 < (x8.length:Int) then((((aH x8 c.2).bind λj=>
  ((kA k a1 a2 y4 j k (([]:(List Int)),0)):Option ((List Int))).bind λe=>
  (bR (be (length c.1+length [e]))).bind λ_=>
  some (c.1++[e])):Option ((List (List Int)))).bind λl=>
  (ck (c.2+1)).bind λh=>
  kB k a1 a2 y4 x8 n (l,h)) else(some c.1)
def kC(k:Nat)(a0:ab)(a1:Int)(a2:Int):Nat->((List (List (List Int)))×Int)->Option (List (List (List Int)))
 |0,_=>none
 |n+1,y4=>
  if y4.2 < (a0.2.2.2.2.1.length:Int) then((((aH a0.2.2.2.2.1 y4.2).bind λx8=>
  ((kB k a1 a2 y4 x8 k (([]:(List (List Int))),0)):Option ((List (List Int)))).bind λx9=>
  (bR (be (length y4.1+length [x9]))).bind λ_=>
  some (y4.1++[x9])):Option ((List (List (List Int))))).bind λx6=>
  (ck (y4.2+1)).bind λc=>
  kC k a0 a1 a2 n (x6,c)) else(some y4.1)
def oy(k:Nat)(a0:ab)(a1:Int)(a2:Int):Option (Option ab):=
 ((kC k a0 a1 a2 k (([]:(List (List (List Int)))),0)):Option ((List (List (List Int))))).bind λx2=>
 (jJ k (a0.1,a0.2.1,a0.2.2.1,a0.2.2.2.1,x2,a0.2.2.2.2.2)).bind λc=>
 gy c (some none) (λe=>some (some e))
theorem xk(k:Nat)(a0:ab)(a1:Int)(a2:Int)(r:(Option ab))(h:oy k a0 a1 a2=some r):
 cP Tryz.prog 85 [.rep am a0,I a1,.eq (.int .u8 a2)] [] (λz:Nat×Nat=>(bu [LE r z.1],LD r λq=>rX q z.1 z.2 k)):=by
 unfold oy at h
 replace h:=aS h
 refine cP.of 69 Tryz.func85 rfl Tryz.ntmps85 rfl λS w0=>?_
 refine sr ?_
 refine bx λb1=>?_
 refine cq ?_
 refine nt ?_
 refine sr ?_
 refine fl cf ?_
 refine lo fG ?_
 refine mq ?_
 refine ja (rm [.tmp 19] [] [(.int .u8 a2)] [] rfl rfl rfl) ?_
 refine aq ?_
 refine aq ?_
 refine nt ?_
 refine sr ?_
 refine fl cf ?_
 refine aP rfl rfl (aN rfl fG rfl rfl rfl) ⟨rfl,rfl,trivial⟩ ?_
 refine nt ?_
 refine aE (Z:=Value) (α:=(List (List (List Int)))) (λz3 x2=>[(3,Pt b1)]) (λz3 x2=>[.obj b1 25 (.agg (.pair (I a0.1) (.pair (I a0.2.1) (.pair (I a0.2.2.1) (.pair (I a0.2.2.2.1) (.pair (.eq z3) (Rs aJ a0.2.2.2.2.2))))))),.sl z3 36 (.slice Tl) x2]) h (λK h=>?_) (λz3 x2 h=>?_)
 .
  refine sr (mq ?_);refine ol pU ?_;refine fM rfl ?_;refine nt (ai (iC (SE.nil 36 (.slice Tl)) ?_));refine dX 1 rfl ?_;refine iC (iJ (a:=.agg (.pair (.rep Ti a0.1) (.pair (.rep Ti a0.2.1) (.pair (.rep Ti a0.2.2.1) (.pair (.rep Ti a0.2.2.2.1) (.pair (.eq (.slice none 0 0)) (Rs aJ a0.2.2.2.2.2))))))) (a':=.agg (.pair (I a0.1) (.pair (I a0.2.1) (.pair (I a0.2.2.1) (.pair (I a0.2.2.2.1) (.pair (.eq (.slice none 0 0)) (Rs aJ a0.2.2.2.2.2))))))) (AE.agg (AE.pair AE.int (AE.pair AE.int (AE.pair AE.int (AE.pair AE.int AE.rfl)))))) ?_;refine aD (λz5 y4=>[(1,I a1),(3,Pt b1),(8,.eq (.func (.func 97) #[(.int .u8 a2)] #[])),(22,.rep (.slice (.slice Tl)) a0.2.2.2.2.1),(23,I (a0.2.2.2.2.1.length:Int)),(24,I y4.2)]) (λz5 y4=>[.obj b1 25 (.agg (.pair (I a0.1) (.pair (I a0.2.1) (.pair (I a0.2.2.1) (.pair (I a0.2.2.2.1) (.pair (.eq z5) (Rs aJ a0.2.2.2.2.2))))))),.sl z5 36 (.slice Tl) y4.1]) (kC k a0 a1 a2) k (.slice none 0 0) (([]:(List (List (List Int)))),0) (λ_=>rfl) h (SE.fin [0,1] ⟨rfl,rfl,rfl,rfl,rfl,rfl,trivial⟩ rfl) (λn z5 y4 h=>?_);unfold kC at h;refine sr (jb (bp rfl) ?_);refine nt (aj (ci h (λh=>?_) (λh=>?_)))
  .refine sk (aE (Z:=Value) (α:=(List (List (List Int)))) (λz7 x6=>[(1,I a1),(3,Pt b1),(8,.eq (.func (.func 97) #[(.int .u8 a2)] #[])),(22,.rep (.slice (.slice Tl)) a0.2.2.2.2.1),(23,I (a0.2.2.2.2.1.length:Int)),(24,I y4.2)]) (λz7 x6=>[.obj b1 25 (.agg (.pair (I a0.1) (.pair (I a0.2.1) (.pair (I a0.2.2.1) (.pair (I a0.2.2.2.1) (.pair (.eq z7) (Rs aJ a0.2.2.2.2.2))))))),.sl z7 36 (.slice Tl) x6]) h (λK h=>?_) (λz7 x6 h=>?_))
   .refine ai (sr (mq ?_));obtain⟨x8,WH,h⟩:=aa h;refine jb (aC (t:=(.slice Tl)) rfl pU kF WH) ?_;refine ja (an (t:=(.slice Tl)) rfl kF rfl) ?_;refine aq ?_;refine aq (nt (sr ?_));refine cq (nt ?_);refine aE (Z:=Value) (α:=(List (List Int))) (λQ x9=>[(1,I a1),(3,Pt b1),(8,.eq (.func (.func 97) #[(.int .u8 a2)] #[])),(11,.eq Q),(22,.rep (.slice (.slice Tl)) a0.2.2.2.2.1),(23,I (a0.2.2.2.2.1.length:Int)),(24,I y4.2)]) (λQ x9=>[.obj b1 25 (.agg (.pair (I a0.1) (.pair (I a0.2.1) (.pair (I a0.2.2.1) (.pair (I a0.2.2.2.1) (.pair (.eq z5) (Rs aJ a0.2.2.2.2.2))))))),.sl z5 36 (.slice Tl) y4.1,.sl Q 28 Tl x9]) h (λK h=>?_) (λQ x9 h=>?_)
    .refine sr (mq ?_);refine ol oa ?_;refine fM rfl ?_;refine nt (ai (iC (SE.nil 28 Tl) ?_));refine aD (λe c=>[(1,I a1),(3,Pt b1),(8,.eq (.func (.func 97) #[(.int .u8 a2)] #[])),(9,I y4.2),(11,.eq e),(22,.rep (.slice (.slice Tl)) a0.2.2.2.2.1),(23,I (a0.2.2.2.2.1.length:Int)),(24,I y4.2),(29,.rep (.slice Tl) x8),(30,I (x8.length:Int)),(31,I c.2)]) (λe c=>[.obj b1 25 (.agg (.pair (I a0.1) (.pair (I a0.2.1) (.pair (I a0.2.2.1) (.pair (I a0.2.2.2.1) (.pair (.eq z5) (Rs aJ a0.2.2.2.2.2))))))),.sl z5 36 (.slice Tl) y4.1,.sl e 28 Tl c.1]) (kB k a1 a2 y4 x8) k (.slice none 0 0) (([]:(List (List Int))),0) (λ_=>rfl) h (SE.fin [1,2,0] ⟨rfl,rfl,rfl,rfl,rfl,rfl,rfl,rfl,rfl,rfl,rfl,trivial⟩ rfl) (λn e c h=>?_);unfold kB at h;refine sr (jb (bp rfl) ?_);refine nt (aj (ci h (λh=>?_) (λh=>?_)))
     .refine sk (aE (Z:=Value) (α:=(List (List Int))) (λE X=>[(1,I a1),(3,Pt b1),(8,.eq (.func (.func 97) #[(.int .u8 a2)] #[])),(9,I y4.2),(11,.eq E),(22,.rep (.slice (.slice Tl)) a0.2.2.2.2.1),(23,I (a0.2.2.2.2.1.length:Int)),(24,I y4.2),(29,.rep (.slice Tl) x8),(30,I (x8.length:Int)),(31,I c.2)]) (λE X=>[.obj b1 25 (.agg (.pair (I a0.1) (.pair (I a0.2.1) (.pair (I a0.2.2.1) (.pair (I a0.2.2.2.1) (.pair (.eq z5) (Rs aJ a0.2.2.2.2.2))))))),.sl z5 36 (.slice Tl) y4.1,.sl E 28 Tl X]) h (λK h=>?_) (λE X h=>?_))
      .refine ai (sr ?_);obtain⟨u,Ws,h⟩:=aa h;refine jb (aC (t:=Tl) rfl oa eR Ws) ?_;refine ja (an (t:=Tl) rfl eR rfl) ?_;refine aq (nt (sr ?_));refine cq (nt ?_);refine aE (Z:=Value) (α:=(List Int)) (λO M=>[(1,I a1),(3,Pt b1),(8,.eq (.func (.func 97) #[(.int .u8 a2)] #[])),(9,I y4.2),(11,.eq e),(14,.eq O),(22,.rep (.slice (.slice Tl)) a0.2.2.2.2.1),(23,I (a0.2.2.2.2.1.length:Int)),(24,I y4.2),(29,.rep (.slice Tl) x8),(30,I (x8.length:Int)),(31,I c.2)]) (λO M=>[.obj b1 25 (.agg (.pair (I a0.1) (.pair (I a0.2.1) (.pair (I a0.2.2.1) (.pair (I a0.2.2.2.1) (.pair (.eq z5) (Rs aJ a0.2.2.2.2.2))))))),.sl z5 36 (.slice Tl) y4.1,.sl e 28 Tl c.1,.sl O 3 Ti M]) h (λK h=>?_) (λO M h=>?_)
       .refine sr (mq ?_);refine ol gG ?_;refine fM rfl ?_;refine nt (ai (iC (SE.nil 3 Ti) ?_));refine aD (λl j=>[(1,I a1),(3,Pt b1),(8,.eq (.func (.func 97) #[(.int .u8 a2)] #[])),(9,I y4.2),(11,.eq e),(14,.eq l),(22,.rep (.slice (.slice Tl)) a0.2.2.2.2.1),(23,I (a0.2.2.2.2.1.length:Int)),(24,I y4.2),(29,.rep (.slice Tl) x8),(30,I (x8.length:Int)),(31,I c.2),(35,.rep Tl u),(36,I (u.length:Int)),(37,I j.2)]) (λl j=>[.obj b1 25 (.agg (.pair (I a0.1) (.pair (I a0.2.1) (.pair (I a0.2.2.1) (.pair (I a0.2.2.2.1) (.pair (.eq z5) (Rs aJ a0.2.2.2.2.2))))))),.sl z5 36 (.slice Tl) y4.1,.sl e 28 Tl c.1,.sl l 3 Ti j.1]) (kA k a1 a2 y4 u) k (.slice none 0 0) (([]:(List Int)),0) (λ_=>rfl) h (SE.fin [1,2,3,0] ⟨rfl,rfl,rfl,rfl,rfl,rfl,rfl,rfl,rfl,rfl,rfl,rfl,rfl,rfl,rfl,trivial⟩ rfl) (λn l j h=>?_);unfold kA at h;refine sr (jb (bp rfl) ?_);refine nt (aj (ci h (λh=>?_) (λh=>?_)))
        .refine sk (aE (Z:=Value) (α:=(List Int)) (λD U=>[(1,I a1),(3,Pt b1),(8,.eq (.func (.func 97) #[(.int .u8 a2)] #[])),(9,I y4.2),(11,.eq e),(14,.eq D),(22,.rep (.slice (.slice Tl)) a0.2.2.2.2.1),(23,I (a0.2.2.2.2.1.length:Int)),(24,I y4.2),(29,.rep (.slice Tl) x8),(30,I (x8.length:Int)),(31,I c.2),(35,.rep Tl u),(36,I (u.length:Int)),(37,I j.2)]) (λD U=>[.obj b1 25 (.agg (.pair (I a0.1) (.pair (I a0.2.1) (.pair (I a0.2.2.1) (.pair (I a0.2.2.2.1) (.pair (.eq z5) (Rs aJ a0.2.2.2.2.2))))))),.sl z5 36 (.slice Tl) y4.1,.sl e 28 Tl c.1,.sl D 3 Ti U]) h (λK h=>?_) (λD U h=>?_))
         .refine ai (sr ?_);obtain⟨J,Wq,h⟩:=aa h;refine jb (aC (t:=Ti) rfl gG bW Wq) ?_;refine ja (an (t:=Ti) rfl bW rfl) ?_;refine aq (nt ?_);refine aE (Z:=Unit) (α:=Bool) (λmc gw=>[(1,I a1),(3,Pt b1),(8,.eq (.func (.func 97) #[(.int .u8 a2)] #[])),(9,I y4.2),(11,.eq e),(14,.eq l),(16,I J),(22,.rep (.slice (.slice Tl)) a0.2.2.2.2.1),(23,I (a0.2.2.2.2.1.length:Int)),(24,I y4.2),(29,.rep (.slice Tl) x8),(30,I (x8.length:Int)),(31,I c.2),(35,.rep Tl u),(36,I (u.length:Int)),(37,I j.2),(49,.eq (.bool gw))]) (λmc gw=>[.obj b1 25 (.agg (.pair (I a0.1) (.pair (I a0.2.1) (.pair (I a0.2.2.1) (.pair (I a0.2.2.2.1) (.pair (.eq z5) (Rs aJ a0.2.2.2.2.2))))))),.sl z5 36 (.slice Tl) y4.1,.sl e 28 Tl c.1,.sl l 3 Ti j.1]) h (λK h=>?_) (λmc gw h=>?_)
          .refine ae ?_;iterate 2 refine mq ?_
           refine jb (bp rfl) ?_;refine mq ?_;refine ce (s:=44) rfl (λhb=>?_) (λhb=>?_)
           .replace h:=eh (wi hb) h;iterate 4 refine gn ?_
            refine pt (nl ?_);exact jz ((),true) h [0,1,2,3]
           .replace h:=cH (wj hb) h;refine gm ?_;refine gm ?_;obtain⟨qt,Wy,h⟩:=aa h;refine gb (ot (fs:=[(.int .u8 a2)]) (cs:=[]) (ags:=[I J]) [.tmp 46] rfl rfl Jr rfl (iu k a2 J qt Wy)) ?_;refine ga (eS rfl) ?_;refine pf (nl ?_);exact jz ((), !qt) h [0,1,2,3]
          .refine cv h (λh=>?_) (λh=>?_)
           .refine ae ?_;iterate 2 refine mq ?_
            refine ja (aX (t:=Ti) [(.tmp 51,_)] [J] rfl rfl cY (.cons rfl .int .nil) rfl rfl) ?_;obtain⟨WJ,Wv,h⟩:=aa h;refine fr 3 ?_;refine cQ rfl rfl rfl (bq rfl rfl cY (ap Wv)) ⟨rfl,rfl,trivial⟩ λWG=>?_;refine aq (aG (bn ?_));exact jz (WG,j.1++[J]) h [1,2,3,0]
           .refine aZ (bn ?_);exact jz (l,j.1) h [0,1,2,3]
         .refine ae ?_;obtain⟨WB,Wp,h⟩:=aa h;refine jb (bi rfl Wp) ?_;refine mq (nl ?_);exact jz (D,(U,WB)) h [0,1,2,3]
        .refine xa ?_;exact jz (l,j.1) h [0,1,2,3]
       .refine ae ?_;iterate 2 refine mq ?_
        refine fr 3 ?_;refine eE (gB [14,56] ⟨rfl,rfl,trivial⟩) ?_;refine ja (aX (t:=Tl) [(.tmp 56,_)] [M] rfl rfl lX (.cons rfl .rep .nil) rfl rfl) ?_;obtain⟨WI,Wu,h⟩:=aa h;refine fr 2 ?_;refine cQ rfl rfl rfl (bq rfl rfl lX (ap Wu)) ⟨rfl,rfl,trivial⟩ λWE=>?_;refine aq (aG (bn ?_));exact jz (WE,c.1++[M]) h [1,2,0]
      .refine ae ?_;obtain⟨WA,Wn,h⟩:=aa h;refine jb (bi rfl Wn) ?_;refine mq (nl ?_);exact jz (E,(X,WA)) h [0,1,2]
     .refine xa ?_;exact jz (e,c.1) h [0,1,2]
    .refine ae (fl cf ?_);refine lo fG ?_;refine mq ?_;refine fr 2 ?_;refine eE (gB [11,62] ⟨rfl,rfl,trivial⟩) ?_;refine ja (aX (t:=(.slice Tl)) [(.tmp 62,_)] [x9] rfl rfl yL (.cons rfl .rep .nil) rfl rfl) ?_;obtain⟨u32,Wt,h⟩:=aa h;refine fr 1 ?_;refine cQ rfl rfl rfl (bq rfl rfl yL (ap Wt)) ⟨rfl,rfl,trivial⟩ λWC=>?_;refine fl cf ?_;refine oM λo34=>?_;refine fr 1 ?_;refine aP rfl rfl (aN rfl fG o34 rfl rfl) ⟨rfl,rfl,trivial⟩ ?_;refine aG (bn ?_);exact jz (WC,y4.1++[x9]) h [0,1]
   .refine ae ?_;obtain⟨Wz,zz,h⟩:=aa h;refine jb (bi rfl zz) ?_;refine mq (nl ?_);exact jz (z7,(x6,Wz)) h [0,1]
  .refine xa ?_;exact jz (z5,y4.1) h [0,1]
 .
  refine sr (fr 1 ?_);refine eE (jm (off:=4) [] trivial rfl rfl) ?_;refine lo dp ?_;obtain⟨mw,Wx,h⟩:=aa h;have y:=oQ k (a0.1,a0.2.1,a0.2.2.1,a0.2.2.2.1,x2,a0.2.2.2.2.2) mw Wx;rcases hr:mw with _ |WL
  .rw [hr] at h y;replace h:=wn h;refine aO (Δ:=[]) (F:=_) (λ_ _ _=>ah rfl _) rfl rfl (bH (N:=[(.tmp 67,.agg (.pair (I a0.1) (.pair (I a0.2.1) (.pair (I a0.2.2.1) (.pair (I a0.2.2.2.1) (.pair (.rep (.slice (.slice Tl)) x2) (Rs aJ a0.2.2.2.2.2)))))))]) (av [.tmp 67] rfl rfl M5 rfl y) λ_ _ _ hn=>⟨(aI (t:=am) (x:=(a0.1,a0.2.1,a0.2.2.1,a0.2.2.2.1,x2,a0.2.2.2.2.2)) (.agg (.pair .int (.pair .int (.pair .int (.pair .int (.pair .rep .rep)))))) trivial rfl hn.1),trivial⟩) ⟨rfl,trivial⟩ λ_=>?_;refine aq (nt (aA ?_));cases h;exact aQ (0,0) [.eq (.pointer none)] 0 ⟨rfl,trivial⟩ rfl
  .rw [hr] at h y;replace h:=wl h;refine aO (Δ:=[]) (F:=_) (λ_ _ _=>ah rfl _) rfl rfl (bH (N:=[(.tmp 67,.agg (.pair (I a0.1) (.pair (I a0.2.1) (.pair (I a0.2.2.1) (.pair (I a0.2.2.2.1) (.pair (.rep (.slice (.slice Tl)) x2) (Rs aJ a0.2.2.2.2.2)))))))]) (av [.tmp 67] rfl rfl M5 rfl y) λ_ _ _ hn=>⟨(aI (t:=am) (x:=(a0.1,a0.2.1,a0.2.2.1,a0.2.2.2.1,x2,a0.2.2.2.2.2)) (.agg (.pair .int (.pair .int (.pair .int (.pair .int (.pair .rep .rep)))))) trivial rfl hn.1),trivial⟩) ⟨rfl,trivial⟩ λY=>?_;refine aq (nt (aA ?_));cases h;exact aQ (Y.1,Y.2) [.eq (.pointer (some ⟨Y.1,0,none⟩))] 2 ⟨rfl,trivial⟩ rfl
def fy(k:Nat)(a0:ab)(r1:(List (List Int)))(y5:Int):Nat->Int->Option (Except Bool Unit)
 |0,_=>none
 |n+1,c=>
  if c < a0.1 then((((aH r1 y5).bind λs=>
  (aH s c).bind λr=>
  if r < 0 then((ck (y5+1)).bind λl=>
  (aH r1 l).bind λj=>
  (aH j c).bind λh=>
  some (decide (h=0))) else(some false)):Option (Bool)).bind λu=>
  if u=true then(some (.error true)) else((ck (c+1)).bind λe=>
  fy k a0 r1 y5 n e)) else(some (.ok ()))
def fA(k:Nat)(a0:ab)(r1:(List (List Int))):Nat->Int->Option (Except Bool Unit)
 |0,_=>none
 |n+1,y5=>
  if y5 < (a0.2.2.2.2.1.length:Int) then(bE (α:=Unit) ((ck (y5+1)).bind λx9=>
  (aH r1 x9).bind λh=>
  (aH r1 y5).bind λc=>
  (bR (yQ h/\yQ c)).bind λ_=>
  if h=c then(some (.ok ())) else(fy k a0 r1 y5 k 0)) (λe=>some (.error e)) λ_=>
  (ck (y5+1)).bind λj=>
  fA k a0 r1 n j) else(some (.ok ()))
def jK(k:Nat)(a0:ab)(a1:Int)(a2:Int):Option Bool:=
 (mQ k a0 a1).bind λr1=>
 bE (α:=Unit) (fA k a0 r1 k a2) (some) λ_=>
 some false
theorem pH(k:Nat)(a0:ab)(c z_a0:Nat)(a1:Int)(a2:Int)(r:Bool)(h:jK k a0 a1 a2=some r):
 cu (ew Tryz.prog) 87 [Pt c,.eq (.int .u8 a1),I a2] [.obj c 135 (ba a0 z_a0),.inv z_a0 (co k a0)] (λ_:Unit=>(bu [.eq (.bool r)],[.obj c 135 (ba a0 z_a0),.inv z_a0 (co k a0)])):=by
 unfold jK at h
 replace h:=aS h
 refine cu.of 56 Tryz.func87 rfl Tryz.ntmps87 rfl λS w0=>?_
 refine sr ?_
 refine cq ?_
 refine nt ?_
 refine sr ?_
 iterate 2 refine mq ?_
 obtain⟨r1,Wn,h⟩:=aa h
 have Wp:=qz k a0 c z_a0 a1 r1 Wn
 refine fr 1 ?_
 refine fr 1 ?_
 refine aO (Δ:=[_,_]) (F:=_) (λ_ _ _=>ah rfl _) rfl rfl (bj [.tmp 10,.tmp 11] rfl rfl Gx rfl Wp) ⟨rfl,rfl,trivial⟩ λ_=>?_
 refine aY rfl rfl rfl (bA rfl Hg JL) trivial λb2=>?_
 refine aP rfl rfl (aN rfl HO rfl rfl rfl) ⟨rfl,rfl,trivial⟩ ?_
 refine eE (km (t:=(.arr 7 Tr)) (x:=r1) [7] .rep ⟨rfl,trivial⟩) ?_
 refine nt ?_
 refine cR (Z:=Unit) (α:=Unit) (λz4 x3=>[]) (λz4 x3=>[.obj c 135 (ba a0 z_a0),.inv z_a0 (co k a0)]) (λe=>e=r) h (λe h=>Option.some.inj h) (λK hR h=>?_) (λz4 x3 h=>?_)
 .
  refine sr (mq ?_);refine aq (nt (ai ?_));refine aD (λz6 y5=>[(0,Pt c),(7,.at (.arr 7 Tr) r1),(8,I y5)]) (λz6 y5=>[.obj c 135 (ba a0 z_a0),.inv z_a0 (co k a0)]) (fA k a0 r1) k () a2 (λ_=>rfl) h (SE.fin [0,1] ⟨rfl,rfl,rfl,trivial⟩ rfl) (λn z6 y5 h=>?_);unfold fA at h;refine aj (sr ?_);iterate 2 refine mq ?_
  refine ja (cV rfl) ?_;refine fl iI ?_;refine fl cf ?_;refine lo fG ?_;refine ol pU ?_;refine jb (bp rfl) ?_;refine nt (ci h (λh=>?_) (λh=>?_))
  .refine sk (cR (Z:=Unit) (α:=Unit) (λz8 x7=>[(0,Pt c),(7,.at (.arr 7 Tr) r1),(8,I y5)]) (λz8 x7=>[.obj c 135 (ba a0 z_a0),.inv z_a0 (co k a0)]) (λe=>e=r) h (λe h=>hR e h) (λK hR h=>?_) (λz8 x7 h=>?_))
   .refine ai (aj (aj (bL ?_)));refine dm ?_;obtain⟨x9,zz,h⟩:=aa h;refine db (bi rfl zz) ?_;obtain⟨Wx,gw,h⟩:=aa h;refine db (cE (t:=Tr) rfl KI jU gw) ?_;refine da (an (t:=Tr) rfl jU rfl) ?_;refine dm ?_;obtain⟨Wv,Y,h⟩:=aa h;refine db (cE (t:=Tr) rfl KI jU Y) ?_;refine da (an (t:=Tr) rfl jU rfl) ?_;refine df cU ?_;obtain⟨Wy,l,h⟩:=aa h;refine jb (Iy rfl (ap l).1 (ap l).2) ?_;refine nt (ci h (λh=>?_) (λh=>?_))
    .refine fF (bK (c6 (ax ?_)));exact jz ((),()) h [0,1]
    .refine sk (sr (mq ?_));refine ja (cV rfl) ?_;refine fl iI ?_;refine fl fK ?_;refine lo bW ?_;refine fM rfl ?_;refine nt (ai (aD (λD j=>[(0,Pt c),(7,.at (.arr 7 Tr) r1),(8,I y5),(36,I a0.1),(37,I j)]) (λD j=>[.obj c 135 (ba a0 z_a0),.inv z_a0 (co k a0)]) (fy k a0 r1 y5) k () 0 (λ_=>rfl) h (SE.fin [0,1] ⟨rfl,rfl,rfl,rfl,rfl,trivial⟩ rfl) (λn D j h=>?_)));unfold fy at h;refine sr (jb (bp rfl) ?_);refine nt (aj (ci h (λh=>?_) (λh=>?_)))
     .refine sk (aj (ai (sr (mq ?_))));refine aq (nt ?_);refine aE (Z:=Unit) (α:=Bool) (λy u=>[(0,Pt c),(7,.at (.arr 7 Tr) r1),(8,I y5),(36,I a0.1),(37,I j),(54,.eq (.bool u))]) (λy u=>[.obj c 135 (ba a0 z_a0),.inv z_a0 (co k a0)]) h (λK h=>?_) (λy u h=>?_)
      .refine ae ?_;iterate 2 refine mq ?_
       obtain⟨Wu,X,h⟩:=aa h;refine jb (cE (t:=Tr) rfl KI jU X) ?_;obtain⟨Wt,U,h⟩:=aa h;refine jb (cE (t:=Ti) rfl Ee bW U) ?_;refine ja (an (t:=Ti) rfl bW rfl) ?_;refine jb (bp rfl) ?_;refine mq ?_;refine ce (s:=46) rfl (λhb=>?_) (λhb=>?_)
       .replace h:=eh (wi hb) h;refine gm ?_;obtain⟨Ws,Q,h⟩:=aa h;refine gb (bi rfl Q) ?_;refine gm ?_;obtain⟨Wq,O,h⟩:=aa h;refine gb (cE (t:=Tr) rfl KI jU O) ?_;obtain⟨qt,M,h⟩:=aa h;refine gb (cE (t:=Ti) rfl Ee bW M) ?_;refine ga (an (t:=Ti) rfl bW rfl) ?_;refine gb (jG rfl) ?_;refine pt (nl ?_);exact jz ((),decide (qt=0)) h [0,1]
       .replace h:=cH (wj hb) h;iterate 7 refine gn ?_
        refine pf (nl ?_);exact jz ((),false) h [0,1]
      .refine cv h (λh=>?_) (λh=>?_)
       .refine sr (cq (nt (aA (br (bb (br (bb (bg ?_))))))));obtain rfl:=hR _ h;exact aQ () [_] 2 ⟨rfl,trivial⟩ rfl
       .refine aZ (aK (tn (ae ?_)));obtain⟨mw,J,h⟩:=aa h;refine jb (bi rfl J) ?_;refine mq (nl ?_);exact jz ((),mw) h [0,1]
     .refine fF (bK (bK (c6 (bn ?_))));exact jz ((),()) h [0,1]
   .refine ae (mq ?_);obtain⟨mc,E,h⟩:=aa h;refine jb (bi rfl E) ?_;refine aq (nl ?_);exact jz ((),mc) h [0,1]
  .refine xa ?_;exact jz ((),()) h [0,1]
 .
  refine sr (cq (nt (aA ?_)));cases h;exact aQ () [_] 2 ⟨rfl,trivial⟩ rfl
def oC(k:Nat)(a0:Int)(a1:ab)(a2:Int):Option Bool:=
 (jK k a1 a0 a2).bind λr1=>
 some r1
theorem uL(k:Nat)(a0:Int)(a1:ab)(c z_a1 j:Nat)(a2:Int)(e:Nat)(r:Bool)(h:oC k a0 a1 a2=some r):
 cu (ew Tryz.prog) 86 [.eq (.int .u8 a0),Pt j,Pt e] [.obj c 135 (ba a1 z_a1),.inv z_a1 (co k a1),.obj j 77 (Pt c),.obj e 3 (I a2)] (λ_:Unit=>(bu [.eq (.bool r)],[.obj c 135 (ba a1 z_a1),.inv z_a1 (co k a1),.obj j 77 (Pt c),.obj e 3 (I a2)])):=by
 unfold oC at h
 replace h:=aS h
 refine cu.of 9 Tryz.func86 rfl Tryz.ntmps86 rfl λS w0=>?_
 refine sr ?_
 refine cq ?_
 refine nt ?_
 refine sr ?_
 refine fr 2 ?_
 refine lo K8 ?_
 refine mq ?_
 refine fr 3 ?_
 refine lo bW ?_
 obtain⟨r1,l,h⟩:=aa h
 have n:=pH k a1 c z_a1 a0 a2 r1 l
 refine fr 3 ?_
 refine fr 3 ?_
 refine aO (Δ:=[_,_]) (F:=_) (λ_ _ _=>ah rfl _) rfl rfl (bj [.tmp 5,.tmp 6,.tmp 7] rfl rfl U7 rfl n) ⟨rfl,rfl,rfl,trivial⟩ λ_=>?_
 refine aq ?_
 refine nt ?_
 refine aA ?_
 refine bC (SE.fin (Γ':=[(4,_)]) [0,1,3,2] ⟨rfl,trivial⟩ rfl) ?_
 cases h
 exact aQ () [_] 4 ⟨rfl,trivial⟩ rfl
def fg(k:Nat)(a0:(List Int))(a1_0:ab)(a1_1:Int):Nat->Int->Option (Except Int Unit)
 |0,_=>none
 |n+1,y3=>
  if y3 < (a0.length:Int) then((aH a0 y3).bind λx5=>
  (oC k x5 a1_0 a1_1).bind λr6=>
  if r6=true then(some (.error y3)) else((ck (y3+1)).bind λx7=>
  fg k a0 a1_0 a1_1 n x7)) else(some (.ok ()))
def jD(k:Nat)(a0:(List Int))(a1_0:ab)(a1_1:Int):Option Int:=
 bE (α:=Unit) (fg k a0 a1_0 a1_1 k 0) (some) λ_=>
 some (-1:Int)
theorem pn(k:Nat)(a0:(List Int))(a1_0:ab)(b_a1_0 z_a1_0 c_a1_0:Nat)(a1_1:Int)(c_a1_1:Nat)(r:Int)(h:jD k a0 a1_0 a1_1=some r):
 cu (ew Tryz.prog) 108 [.rep (.slice (.int .u8)) a0,.eq (.func (.func 86) #[] #[(Pv c_a1_0),(Pv c_a1_1)])] [.obj b_a1_0 135 (ba a1_0 z_a1_0),.inv z_a1_0 (co k a1_0),.obj c_a1_0 77 (Pt b_a1_0),.obj c_a1_1 3 (I a1_1)] (λ_:Unit=>(bu [I r],[.obj b_a1_0 135 (ba a1_0 z_a1_0),.inv z_a1_0 (co k a1_0),.obj c_a1_0 77 (Pt b_a1_0),.obj c_a1_1 3 (I a1_1)])):=by
 unfold jD at h
 replace h:=aS h
 refine cu.of 19 Tryz.func108 rfl Tryz.ntmps108 rfl λS w0=>?_
 refine sr ?_
 refine cq ?_
 refine nt ?_
 refine cR (Z:=Unit) (α:=Unit) (λz2 x1=>[]) (λz2 x1=>[.obj b_a1_0 135 (ba a1_0 z_a1_0),.inv z_a1_0 (co k a1_0),.obj c_a1_0 77 (Pt b_a1_0),.obj c_a1_1 3 (I a1_1)]) (λe=>e=r) h (λe h=>Option.some.inj h) (λK hR h=>?_) (λz2 x1 h=>?_)
 .
  refine sr (mq ?_);refine ol xw ?_;refine fM rfl ?_;refine nt (ai (aD (λz4 y3=>[(0,.rep (.slice (.int .u8)) a0),(1,.eq (.func (.func 86) #[] #[(Pv c_a1_0),(Pv c_a1_1)])),(7,I (a0.length:Int)),(8,I y3)]) (λz4 y3=>[.obj c_a1_0 77 (Pt b_a1_0),.obj b_a1_0 135 (ba a1_0 z_a1_0),.obj c_a1_1 3 (I a1_1),.inv z_a1_0 (co k a1_0)]) (fg k a0 a1_0 a1_1) k () 0 (λ_=>rfl) h (SE.fin [2,0,3,1] ⟨rfl,rfl,rfl,rfl,trivial⟩ rfl) (λn z4 y3 h=>?_)));unfold fg at h;refine sr (jb (bp rfl) ?_);refine nt (aj (ci h (λh=>?_) (λh=>?_)))
  .refine sk (aj (ai (sr (mq ?_))));refine aq (nt (sr ?_));iterate 3 refine mq ?_
   obtain⟨x5,j,h⟩:=aa h;refine jb (aC (t:=(.int .u8)) rfl xw np j) ?_;refine ja (an (t:=(.int .u8)) rfl np rfl) ?_;obtain⟨r6,l,h⟩:=aa h;refine fr 2 ?_;refine fr 1 ?_;refine fr 3 ?_;refine fr 3 ?_;refine aO (Δ:=[_,_,_,_]) (F:=_) (λ_ _ _=>ah rfl _) rfl rfl (sF (fs:=[]) (cs:=[(Pv c_a1_0),(Pv c_a1_1)]) (ags:=[.eq (.int .u8 x5)]) [.tmp 15] rfl rfl U8 rfl (uL k x5 a1_0 b_a1_0 z_a1_0 c_a1_0 a1_1 c_a1_1 r6 l)) ⟨rfl,rfl,trivial⟩ λ_=>?_;refine nt (cv h (λh=>?_) (λh=>?_))
   .refine sr (mq ?_);refine aq (nt (aA (br (bb (bg ?_)))));obtain rfl:=hR _ h;exact aQ () [_] 4 ⟨rfl,trivial⟩ rfl
   .refine aZ (aK (tn (ae ?_)));obtain⟨x7,c,h⟩:=aa h;refine jb (bi rfl c) ?_;refine mq (nl ?_);exact jz ((),x7) h [2,0,3,1]
  .refine xa ?_;exact jz ((),()) h [1,3,0,2]
 .
  refine sr (cq (nt (aA ?_)));cases h;exact aQ () [_] 4 ⟨rfl,trivial⟩ rfl
def fh(k:Nat)(a0:(List Int))(a1_0:ab)(a1_1:Int):Option Bool:=
 (jD k a0 a1_0 a1_1).bind λr1=>
 some (decide (0≤r1))
theorem nI(k:Nat)(a0:(List Int))(a1_0:ab)(b_a1_0 z_a1_0 c_a1_0:Nat)(a1_1:Int)(c_a1_1:Nat)(r:Bool)(h:fh k a0 a1_0 a1_1=some r):
 cu (ew Tryz.prog) 88 [.rep (.slice (.int .u8)) a0,.eq (.func (.func 86) #[] #[(Pv c_a1_0),(Pv c_a1_1)])] [.obj b_a1_0 135 (ba a1_0 z_a1_0),.inv z_a1_0 (co k a1_0),.obj c_a1_0 77 (Pt b_a1_0),.obj c_a1_1 3 (I a1_1)] (λ_:Unit=>(bu [.eq (.bool r)],[.obj b_a1_0 135 (ba a1_0 z_a1_0),.inv z_a1_0 (co k a1_0),.obj c_a1_0 77 (Pt b_a1_0),.obj c_a1_1 3 (I a1_1)])):=by
 unfold fh at h
 replace h:=aS h
 refine cu.of 9 Tryz.func88 rfl Tryz.ntmps88 rfl λS w0=>?_
 refine sr ?_
 refine cq ?_
 refine nt ?_
 refine sr ?_
 iterate 2 refine mq ?_
 obtain⟨r1,c,h⟩:=aa h
 have e:=pn k a0 a1_0 b_a1_0 z_a1_0 c_a1_0 a1_1 c_a1_1 r1 c
 refine fr 3 ?_
 refine fr 3 ?_
 refine fr 3 ?_
 refine fr 3 ?_
 refine aO (Δ:=[_,_,_,_]) (F:=_) (λ_ _ _=>ah rfl _) rfl rfl (bj [.tmp 5,.tmp 6] rfl rfl TC rfl e) ⟨rfl,rfl,trivial⟩ λ_=>?_
 refine jb (iQ rfl) ?_
 refine aq ?_
 refine nt ?_
 refine aA ?_
 cases h
 exact aQ () [_] 4 ⟨rfl,trivial⟩ rfl
def rH(k:Nat)(a0:ab)(a1:Int):Option ((List Int)×Int):=
 (jt k a0 ([]:(List Int)) [a1] ([]:(List Int))).bind λr3=>
 gy r3.1 (if¬(r3.2.2=0) then(some (([]:(List Int)),r3.2.2)) else(none)) (λq4=>if¬(r3.2.2=0) then(some (([]:(List Int)),r3.2.2)) else((kN k (sd (λ(c:(List Int)) (e:Int)=>
  (oy k a0 a1 e).bind λr=>
  gy r (none) (λs=>(fh k r3.2.1 s a1).bind λn=>
  if¬(n=true) then((bR (be (length c+length [e]))).bind λ_=>
  some (c++[e],true)) else(some (c,true))))) a0.1 (([]:(List Int)),false)).bind λh=>
 if h.2=true then(none) else((rE k h.1).bind λl=>
 (eI k l).bind λj=>
 some (j,0))))
theorem xm(k:Nat)(a0:ab)(a1:Int)(r:(List Int)×Int)(h:rH k a0 a1=some r):
 cu (ew Tryz.prog) 45 [.rep am a0,I a1] [] (λ_:Unit=>(bu [.rep Tl r.1,I r.2],[])):=by
 unfold rH at h
 replace h:=aS h
 refine wL 44 Tryz.func45 rfl Tryz.ntmps45 rfl λS w0=>?_
 refine sr ?_
 refine bx λb1=>?_
 refine bx λb2=>?_
 refine cq ?_
 refine cq ?_
 refine nt ?_
 refine sr ?_
 refine fr 1 ?_
 refine lo dp ?_
 refine fr 1 ?_
 refine lo bW ?_
 refine ja (aX (t:=Ti) [(.tmp 15,_)] [a1] rfl rfl cY (.cons rfl .int .nil) rfl rfl) ?_
 obtain⟨r3,Wq,h⟩:=aa h
 have y:=lD k a0 ([]:(List Int)) [a1] ([]:(List Int)) r3 Wq
 rcases hr:r3.1 with _ |q4
 .
  rw [hr] at h y;replace h:=wn h;refine aO (Δ:=[]) (F:=_) (λ_ _ _=>ah rfl _) rfl rfl (bH (N:=[(.tmp 14,.rep am a0),(.const (.slice none 0 0),.eq (.slice none 0 0)),(.tmp 16,.rep Tl [a1]),(.const (.slice none 0 0),.eq (.slice none 0 0))]) (bj [.tmp 14,.const (.slice none 0 0),.tmp 16,.const (.slice none 0 0)] rfl rfl BA rfl y) λ_ _ _ hn=>⟨hn.1,(aI (t:=Tl) (x:=([]:(List Int))) .nil rfl rfl hn.2.1),hn.2.2.1,(aI (t:=Tl) (x:=([]:(List Int))) .nil rfl rfl hn.2.2.2.1),trivial⟩) ⟨rfl,rfl,rfl,rfl,trivial⟩ λ_=>?_;refine mq ?_;refine xr ?_;refine xr ?_;refine xr ?_;refine aY rfl rfl rfl (bA rfl KL NF) trivial λb5=>?_;refine aq ?_;refine aP rfl rfl (aN rfl yK rfl rfl rfl) ⟨rfl,rfl,trivial⟩ ?_;refine aq (nt (aj (sr ?_)));refine mq ?_;refine jb (dV rfl) ?_;refine nt (cn h (λh=>?_) (λh=>?_))
  .refine sr (mq ?_);refine cq ?_;refine aq (nt (rx ?_));refine bC (dL (t:=Tl) (x:=([]:(List Int))) 4 rfl .nil rfl rfl) ?_;refine Cc ?_;cases h;exact rb
  .cases h
 .
  rw [hr] at h y;replace h:=wl h;refine aO (Δ:=[]) (F:=_) (λ_ _ _=>ah rfl _) rfl rfl (bH (N:=[(.tmp 14,.rep am a0),(.const (.slice none 0 0),.eq (.slice none 0 0)),(.tmp 16,.rep Tl [a1]),(.const (.slice none 0 0),.eq (.slice none 0 0))]) (bj [.tmp 14,.const (.slice none 0 0),.tmp 16,.const (.slice none 0 0)] rfl rfl BA rfl y) λ_ _ _ hn=>⟨hn.1,(aI (t:=Tl) (x:=([]:(List Int))) .nil rfl rfl hn.2.1),hn.2.2.1,(aI (t:=Tl) (x:=([]:(List Int))) .nil rfl rfl hn.2.2.2.1),trivial⟩) ⟨rfl,rfl,rfl,rfl,trivial⟩ λz6=>?_;refine mq ?_;refine xr ?_;refine xr ?_;refine xr ?_;refine aY rfl rfl rfl (bA rfl KL NF) trivial λb7=>?_;refine aq ?_;refine aP rfl rfl (aN rfl yK rfl rfl rfl) ⟨rfl,rfl,trivial⟩ ?_;refine aq (nt (aj (sr ?_)));refine mq ?_;refine jb (dV rfl) ?_;refine nt (cn h (λh=>?_) (λh=>?_))
  .refine sr (mq ?_);refine cq ?_;refine aq (nt (rx ?_));refine bC (dL (t:=Tl) (x:=([]:(List Int))) 4 rfl .nil rfl rfl) ?_;refine Cc ?_;cases h;exact rb
  .refine sk (sr (aY rfl rfl rfl (bA rfl KL NF) trivial λb8=>?_));refine nt (aj (sr (fl fK ?_)));refine fr 5 ?_;refine lo bW ?_;refine aY rfl rfl rfl (av [.tmp 25] rfl rfl SO rfl (sO a0.1)) ⟨rfl,trivial⟩ λb9=>?_;refine nt (ai (iC (SE.nil 78 (.int .u8)) ?_));refine dX 7 rfl ?_;refine dX 7 rfl ?_;refine dX 7 rfl ?_;refine dX 7 rfl ?_;refine dX 4 rfl ?_;refine dX 7 rfl ?_;refine dX 7 rfl ?_;refine dX 7 rfl ?_;obtain⟨u,qt,h⟩:=aa h;refine s9 (Δ:=[.obj b9 3 (I a0.1),.obj b1 25 (.rep am a0),.obj b8 92 (.eq (.slice none 0 0)),.sl (.slice none 0 0) 78 (.int .u8) ([]:(List Int)),.obj b7 92 (.rep (.slice (.int .u8)) r3.2.1),.obj z6.1 135 (ba q4 z6.2),.inv z6.2 (co k q4),.obj b2 3 (I a1)]) (F:=[]) (X:=Value) (J:=λ_=>Q1 u.2) (E:=λc=>[.obj b9 3 (I a0.1),.obj b1 25 (.rep am a0),.obj b8 92 (.eq c),.sl c 78 (.int .u8) u.1,.obj b7 92 (.rep (.slice (.int .u8)) r3.2.1),.obj z6.1 135 (ba q4 z6.2),.inv z6.2 (co k q4),.obj b2 3 (I a1)]) (r0:=λ_=>.tup .any) rfl rfl OF (λrec hp ha hb hs hpe hN hv l=>?_) (λdl c=>vk (λhj=>?_) (λhj=>?_))
   .rcases rec with⟨st0,pe0,fn0,tm0,ps0,as0,bd0,df0⟩;dsimp only at hp ha hb hs hpe hN hv;subst hp hs hpe;have vN:BX tm0 [(2,Pt b1),(3,Pt b2),(7,Pt b7),(9,Pt b8)]:=⟨congrArg A.eq (hv 2 _ rfl).symm,congrArg A.eq (hv 3 _ rfl).symm,congrArg A.eq (hv 7 _ rfl).symm,congrArg A.eq (hv 9 _ rfl).symm,trivial⟩;refine cu.pick (M:=(ew Tryz.prog)) [1,0,2,3,4,5,6,7,8] [1,0,2,3,4,5,6,7,8] (pJ (λ(c:Value) (q:(List Int)×Bool)=>[.raw l (.loop (lj ⟨.ready,none,fn0,tm0, #[27],as0,bd0,df0⟩ (Q1 q.2))),.obj b1 25 (.rep am a0),.obj b8 92 (.eq c),.sl c 78 (.int .u8) q.1,.obj b7 92 (.rep (.slice (.int .u8)) r3.2.1),.obj z6.1 135 (ba q4 z6.2),.inv z6.2 (co k q4),.obj b2 3 (I a1)]) l (sd (λ(n:(List Int)) (j:Int)=>
    (oy k a0 a1 j).bind λs=>
    gy s (none) (λO=>(fh k r3.2.1 O a1).bind λD=>
    if¬(D=true) then((bR (be (length n+length [j]))).bind λ_=>
    some (n++[j],true)) else(some (n,true))))) k a0.1 b9 (λc q p r' h=>?_) (.slice none 0 0) (([]:(List Int)),false) u qt) rfl (λ_=>rfl) (λ_=>rfl)
    obtain⟨rq,hq,h2,rfl⟩:=vl h;obtain⟨n,b5⟩:=q;obtain rfl:b5=false:=hq;replace h:=aS h2;obtain⟨j,hpv⟩:∃x,x=p:=⟨_,rfl⟩;subst hpv;refine YT.pick (R':=(λc:Value=>(.eq (.bool rq.2),[.raw l (.loop (lj ⟨.ready,none,fn0,tm0, #[27],as0,bd0,df0⟩ (Q1 (!rq.2)))),.obj b1 25 (.rep am a0),.obj b8 92 (.eq c),.sl c 78 (.int .u8) rq.1,.obj b7 92 (.rep (.slice (.int .u8)) r3.2.1),.obj z6.1 135 (ba q4 z6.2),.inv z6.2 (co k q4),.obj b2 3 (I a1)]))) [0,1,2,3,4,5,6,7] [0,1,2,3,4,5,6,7] (JM ha hb (N:=44) (Γ:=[(2,Pt b1),(3,Pt b2),(7,Pt b7),(9,Pt b8)]) rfl hN (by decide) vN (λS w=>?_)) rfl (λ_=>rfl) (λ_=>rfl);refine ae (aq (nl ?_));refine Ce rfl rfl ?_;refine ai (sr (fr 1 ?_));refine lo dp ?_;refine fr 7 ?_;refine lo bW ?_;refine mq ?_;obtain⟨s,mw,h⟩:=aa h;have e:=xk k a0 a1 j s mw;rcases hr:s with _ |O
    .rw [hr] at h e;replace h:=wn h;refine aO (Δ:=[]) (F:=_) (λ_ _ _=>ah rfl _) rfl rfl (av [.tmp 28,.tmp 29,.tmp 30] rfl rfl SN rfl e) ⟨rfl,rfl,rfl,trivial⟩ λ_=>?_;cases h
    .rw [hr] at h e;replace h:=wl h;refine aO (Δ:=[]) (F:=_) (λ_ _ _=>ah rfl _) rfl rfl (av [.tmp 28,.tmp 29,.tmp 30] rfl rfl SN rfl e) ⟨rfl,rfl,rfl,trivial⟩ λQ=>?_;refine aY rfl rfl rfl (bA rfl Ut VG) trivial λzz=>?_;refine aP rfl rfl (aN rfl K8 rfl rfl rfl) ⟨rfl,rfl,trivial⟩ ?_;refine nt (sr (jb (rm [] [.tmp 11,.tmp 3] [] [(Pv zz),(Pv b2)] rfl rfl rfl) ?_));refine aq (nt (sr ?_));refine fr 8 ?_;refine lo yK ?_;refine mq ?_;obtain⟨D,mc,h⟩:=aa h;refine fr 4 ?_;refine fr 2 ?_;refine fr 4 ?_;refine fr 4 ?_;refine aO (Δ:=[_,_,_,_]) (F:=_) (λ_ _ _=>ah rfl _) rfl rfl (bj [.tmp 33,.tmp 34] rfl rfl U6 rfl (nI k r3.2.1 O Q.1 Q.2 zz a1 b2 D mc)) ⟨rfl,rfl,trivial⟩ λ_=>?_;refine ja (eS rfl) ?_;refine nt (cw h (λh=>?_) (λh=>?_))
     .refine ae (fr 7 ?_);refine lo yK ?_;refine mq ?_;refine ja (aX (t:=(.int .u8)) [(.tmp 38,_)] [j] rfl rfl Lp (.cons rfl .int .nil) rfl rfl) ?_;obtain⟨Ws,Y,h⟩:=aa h;refine fr 8 ?_;refine cQ rfl rfl rfl (bq rfl rfl Lp (ap Y)) ⟨rfl,rfl,trivial⟩ λWn=>?_;refine oM λo22=>?_;refine fr 1 ?_;refine aP rfl rfl (aN rfl yK o22 rfl rfl) ⟨rfl,rfl,trivial⟩ ?_;refine aG (aK (bI 5 rfl ?_));refine bI 10 rfl ?_;refine bI 10 rfl ?_;refine bI 8 rfl ?_;refine bI 5 rfl ?_;refine bI 5 rfl ?_;refine bI 9 rfl ?_;refine bI 10 rfl ?_;cases h;exact qG Wn 7 rfl
     .refine aZ (aK (bI 3 rfl ?_));refine bI 10 rfl ?_;refine bI 10 rfl ?_;refine bI 6 rfl ?_;refine bI 10 rfl ?_;refine bI 10 rfl ?_;refine bI 9 rfl ?_;refine bI 10 rfl ?_;cases h;exact qG c 7 rfl
   .replace h:=cH (K2 hj) h;refine aK (tn (sr (fr 3 ?_)));refine lo yK ?_;obtain⟨U,gw,h⟩:=aa h;refine fr 4 ?_;refine kb (ko (N:=[(.tmp 41,.eq c),(.func 89,.eq (.func (.func 89) #[] #[]))]) (av [.tmp 41,.func 89] rfl rfl SV rfl (xl k u.1 U gw)) (λ_ _ _ hv hn=>⟨(lend hn.1 hv),hn.2.1,trivial⟩) (λ_=>⟨rfl,nV⟩)) ?_;obtain⟨Wp,Z,h⟩:=aa h;refine ja (av [.tmp 42] rfl rfl Js rfl (gP k U Wp Z)) ?_;refine aq ?_;refine cq (nt (aA ?_));refine bI 2 rfl ?_;refine Fz ?_;cases h;exact rb
   .replace h:=eh (K1 hj) h;cases h
def pL(k:Nat):Option Bool:=
 (jv k ([]:(List aR))).bind λr1=>
 (rI k r1 [0]).bind λr2=>
 (jv k ([]:(List aR))).bind λr3=>
 (j8 k r3).bind λr4=>
 (jv k ([]:(List aR))).bind λr5=>
 (tN k r5 2).bind λr6=>
 (jv k ([]:(List aR))).bind λr8=>
 (tO k r8 [0] 3).bind λr9=>
 (jv k ([]:(List aR))).bind λu=>
 (vL k u 2).bind λc=>
 (jv k ([]:(List aR))).bind λs=>
 (rH k s 2).bind λe=>
 ((if r2.2=0 then(if r4.2=0 then(if r6.2=0 then(if r9.2=0 then(if c.2.2=0 then(if e.2=0 then(if r6.1=(1,3) then(if c.1=2 then(if c.2.1=2 then((eg k r2.1 [[1,(-1:Int),(-1:Int),(-1:Int)],[2,0,(-1:Int),(-1:Int)],[3,1,(-1:Int),(-1:Int)],[3,2,0,(-1:Int)],[(-1:Int),3,1,0]]).bind λr=>
 if r=true then((eg k r4.1 [[0],[0,1],[1]]).bind λn=>
 if n=true then((fD k r9.1 [0,1,3]).bind λl=>
 if l=true then((fD k e.1 [1,2]).bind λj=>
 some j) else(some false)) else(some false)) else(some false)) else(some false)) else(some false)) else(some false)) else(some false)) else(some false)) else(some false)) else(some false)) else(some false)) else(some false)):Option (Bool)).bind λh=>
 some h
theorem uv(k:Nat)(r:Bool)(h:pL k=some r):
 cu (ew Tryz.prog) 11 [] [] (λ_:Unit=>(bu [.eq (.bool r)],[])):=by
 unfold pL at h
 replace h:=aS h
 refine cu.of 110 Tryz.func11 rfl Tryz.ntmps11 rfl λS w0=>?_
 refine sr ?_
 refine cq ?_
 refine nt ?_
 refine sr ?_
 obtain⟨r1,Wv,h⟩:=aa h
 have WG:=iG k ([]:(List aR)) r1 Wv
 refine ja (bH (N:=[(.const (.slice none 0 0),.eq (.slice none 0 0))]) (av [.const (.slice none 0 0)] rfl rfl Gy rfl WG) λ_ _ _ hn=>⟨(aI (t:=(.slice aJ)) (x:=([]:(List aR))) .nil rfl rfl hn.1),trivial⟩) ?_
 refine ja (aX (t:=Ti) [(.const (.int .i64 (0)),_)] [0] rfl rfl cY (.cons rfl .int .nil) rfl rfl) ?_
 obtain⟨r2,Wu,h⟩:=aa h
 have WE:=xo k r1 [0] r2 Wu
 refine jb (bj [.tmp 15,.tmp 16] rfl rfl VA rfl WE) ?_
 refine mq ?_
 refine xr ?_
 refine xr ?_
 refine aq ?_
 refine aq ?_
 refine nt ?_
 refine sr ?_
 obtain⟨r3,Wt,h⟩:=aa h
 have WC:=iG k ([]:(List aR)) r3 Wt
 refine ja (bH (N:=[(.const (.slice none 0 0),.eq (.slice none 0 0))]) (av [.const (.slice none 0 0)] rfl rfl Gy rfl WC) λ_ _ _ hn=>⟨(aI (t:=(.slice aJ)) (x:=([]:(List aR))) .nil rfl rfl hn.1),trivial⟩) ?_
 obtain⟨r4,Ws,h⟩:=aa h
 have WB:=qQ k r3 r4 Ws
 refine ja (bj [.tmp 21] rfl rfl Ta rfl WB) ?_
 refine mq ?_
 refine xr ?_
 refine xr ?_
 refine aq ?_
 refine aq ?_
 refine nt ?_
 refine sr ?_
 obtain⟨r5,Wq,h⟩:=aa h
 have WA:=iG k ([]:(List aR)) r5 Wq
 refine ja (bH (N:=[(.const (.slice none 0 0),.eq (.slice none 0 0))]) (av [.const (.slice none 0 0)] rfl rfl Gy rfl WA) λ_ _ _ hn=>⟨(aI (t:=(.slice aJ)) (x:=([]:(List aR))) .nil rfl rfl hn.1),trivial⟩) ?_
 obtain⟨r6,Wp,h⟩:=aa h
 have Wz:=zh k r5 2 r6 Wp
 refine jb (bj [.tmp 26,.const (.int .i64 (2))] rfl rfl Vr rfl Wz) ?_
 refine mq ?_
 refine xr ?_
 refine xr ?_
 refine aY rfl rfl rfl (bA rfl CL TO) trivial λb7=>?_
 refine aP rfl rfl (aN rfl wY rfl rfl rfl) ⟨rfl,rfl,trivial⟩ ?_
 refine aq ?_
 refine nt ?_
 refine sr ?_
 obtain⟨r8,Wn,h⟩:=aa h
 have Wy:=iG k ([]:(List aR)) r8 Wn
 refine ja (bH (N:=[(.const (.slice none 0 0),.eq (.slice none 0 0))]) (av [.const (.slice none 0 0)] rfl rfl Gy rfl Wy) λ_ _ _ hn=>⟨(aI (t:=(.slice aJ)) (x:=([]:(List aR))) .nil rfl rfl hn.1),trivial⟩) ?_
 refine ja (aX (t:=Ti) [(.const (.int .i64 (0)),_)] [0] rfl rfl cY (.cons rfl .int .nil) rfl rfl) ?_
 obtain⟨r9,zz,h⟩:=aa h
 have Wx:=zk k r8 [0] 3 r9 zz
 refine jc (bj [.tmp 31,.tmp 32,.const (.int .i64 (3))] rfl rfl Vs rfl Wx) ?_
 refine mq ?_
 refine xr ?_
 refine xr ?_
 refine aq ?_
 refine aq ?_
 refine nt ?_
 refine sr ?_
 obtain⟨u,O,h⟩:=aa h
 have Y:=iG k ([]:(List aR)) u O
 refine ja (bH (N:=[(.const (.slice none 0 0),.eq (.slice none 0 0))]) (av [.const (.slice none 0 0)] rfl rfl Gy rfl Y) λ_ _ _ hn=>⟨(aI (t:=(.slice aJ)) (x:=([]:(List aR))) .nil rfl rfl hn.1),trivial⟩) ?_
 obtain⟨qt,M,h⟩:=aa h
 have X:=A5 k u 2 qt M
 refine jb (bj [.tmp 37,.const (.int .i64 (2))] rfl rfl Vx rfl X) ?_
 refine mq ?_
 refine xr ?_
 refine xr ?_
 refine xr ?_
 refine aq ?_
 refine aq ?_
 refine aq ?_
 refine nt ?_
 refine sr ?_
 obtain⟨n,J,h⟩:=aa h
 have U:=iG k ([]:(List aR)) n J
 refine ja (bH (N:=[(.const (.slice none 0 0),.eq (.slice none 0 0))]) (av [.const (.slice none 0 0)] rfl rfl Gy rfl U) λ_ _ _ hn=>⟨(aI (t:=(.slice aJ)) (x:=([]:(List aR))) .nil rfl rfl hn.1),trivial⟩) ?_
 obtain⟨l,I,h⟩:=aa h
 have Q:=xm k n 2 l I
 refine jb (bj [.tmp 43,.const (.int .i64 (2))] rfl rfl Vq rfl Q) ?_
 refine mq ?_
 refine xr ?_
 refine xr ?_
 refine aq ?_
 refine aq ?_
 refine nt ?_
 refine aE (Z:=Unit) (α:=Bool) (λe c=>[(0,.eq (.bool c))]) (λe c=>[]) h (λK h=>?_) (λe c h=>?_)
 .
  refine ae (mq ?_);refine jb (jG rfl) ?_;refine mq ?_;refine ce (s:=49) rfl (λhb=>?_) (λhb=>?_)
  .replace h:=eh (wi hb) h;refine gm ?_;refine gb (jG rfl) ?_;refine pt ?_;refine mq ?_;refine ce (s:=53) rfl (λhb=>?_) (λhb=>?_)
   .replace h:=eh (wi hb) h;refine gm ?_;refine gb (jG rfl) ?_;refine pt ?_;refine mq ?_;refine ce (s:=57) rfl (λhb=>?_) (λhb=>?_)
    .replace h:=eh (wi hb) h;refine gm ?_;refine gb (jG rfl) ?_;refine pt ?_;refine mq ?_;refine ce (s:=61) rfl (λhb=>?_) (λhb=>?_)
     .replace h:=eh (wi hb) h;refine gm ?_;refine gb (jG rfl) ?_;refine pt ?_;refine mq ?_;refine ce (s:=65) rfl (λhb=>?_) (λhb=>?_)
      .replace h:=eh (wi hb) h;refine gm ?_;refine gb (jG rfl) ?_;refine pt ?_;refine mq ?_;refine ce (s:=69) rfl (λhb=>?_) (λhb=>?_)
       .replace h:=eh (wi hb) h;refine eW rfl rfl rfl rfl rfl rfl (ao rfl wY (qp) rfl) ⟨rfl,trivial⟩ ?_;refine gb (eH [(0,.const (.int .i64 (1)),_),(1,.const (.int .i64 (3)),_)] rfl Im CL BS (kH ⟨rfl,rfl,trivial⟩) rfl) ?_;refine eE (dL (t:=bV) (x:=(1,3)) 71 rfl (.agg (.pair .int .int)) trivial rfl) ?_;refine gb (PU rfl UZ rfl) ?_;refine pt ?_;refine mq ?_;refine ce (s:=74) rfl (λhb=>?_) (λhb=>?_)
        .replace h:=eh (wi hb) h;refine gm ?_;refine gb (jG rfl) ?_;refine pt ?_;refine mq ?_;refine ce (s:=78) rfl (λhb=>?_) (λhb=>?_)
         .replace h:=eh (wi hb) h;refine gm ?_;refine gb (jG rfl) ?_;refine pt ?_;refine mq ?_;refine ce (s:=82) rfl (λhb=>?_) (λhb=>?_)
          .replace h:=eh (wi hb) h;refine gm ?_;refine nA rfl rfl rfl rfl rfl rfl (aX (t:=Ti) [(.const (.int .i64 (1)),_),(.const (.int .i64 (-1)),_),(.const (.int .i64 (-1)),_),(.const (.int .i64 (-1)),_)] [1,(-1:Int),(-1:Int),(-1:Int)] rfl rfl cY (.cons rfl .int (.cons rfl .int (.cons rfl .int (.cons rfl .int .nil)))) rfl rfl) ⟨rfl,rfl,rfl,rfl,trivial⟩ ?_;refine nA rfl rfl rfl rfl rfl rfl (aX (t:=Ti) [(.const (.int .i64 (2)),_),(.const (.int .i64 (0)),_),(.const (.int .i64 (-1)),_),(.const (.int .i64 (-1)),_)] [2,0,(-1:Int),(-1:Int)] rfl rfl cY (.cons rfl .int (.cons rfl .int (.cons rfl .int (.cons rfl .int .nil)))) rfl rfl) ⟨rfl,rfl,rfl,rfl,trivial⟩ ?_;refine nA rfl rfl rfl rfl rfl rfl (aX (t:=Ti) [(.const (.int .i64 (3)),_),(.const (.int .i64 (1)),_),(.const (.int .i64 (-1)),_),(.const (.int .i64 (-1)),_)] [3,1,(-1:Int),(-1:Int)] rfl rfl cY (.cons rfl .int (.cons rfl .int (.cons rfl .int (.cons rfl .int .nil)))) rfl rfl) ⟨rfl,rfl,rfl,rfl,trivial⟩ ?_;refine nA rfl rfl rfl rfl rfl rfl (aX (t:=Ti) [(.const (.int .i64 (3)),_),(.const (.int .i64 (2)),_),(.const (.int .i64 (0)),_),(.const (.int .i64 (-1)),_)] [3,2,0,(-1:Int)] rfl rfl cY (.cons rfl .int (.cons rfl .int (.cons rfl .int (.cons rfl .int .nil)))) rfl rfl) ⟨rfl,rfl,rfl,rfl,trivial⟩ ?_;refine nA rfl rfl rfl rfl rfl rfl (aX (t:=Ti) [(.const (.int .i64 (-1)),_),(.const (.int .i64 (3)),_),(.const (.int .i64 (1)),_),(.const (.int .i64 (0)),_)] [(-1:Int),3,1,0] rfl rfl cY (.cons rfl .int (.cons rfl .int (.cons rfl .int (.cons rfl .int .nil)))) rfl rfl) ⟨rfl,rfl,rfl,rfl,trivial⟩ ?_;refine nA rfl rfl rfl rfl rfl rfl (aX (t:=Tl) [(.tmp 84,_),(.tmp 85,_),(.tmp 86,_),(.tmp 87,_),(.tmp 88,_)] [[1,(-1:Int),(-1:Int),(-1:Int)],[2,0,(-1:Int),(-1:Int)],[3,1,(-1:Int),(-1:Int)],[3,2,0,(-1:Int)],[(-1:Int),3,1,0]] rfl rfl lX (.cons rfl .rep (.cons rfl .rep (.cons rfl .rep (.cons rfl .rep (.cons rfl .rep .nil))))) rfl rfl) ⟨rfl,rfl,rfl,rfl,rfl,trivial⟩ ?_;obtain⟨mw,F,h⟩:=aa h;refine gb (av [.tmp 83,.tmp 89] rfl rfl M7 rfl (iH k r2.1 [[1,(-1:Int),(-1:Int),(-1:Int)],[2,0,(-1:Int),(-1:Int)],[3,1,(-1:Int),(-1:Int)],[3,2,0,(-1:Int)],[(-1:Int),3,1,0]] mw F)) ?_;refine pt ?_;refine mq ?_;refine ce (s:=92) rfl (λhb=>?_) (λhb=>?_)
           .replace h:=eh (K1 hb) h;refine gm ?_;refine ga (aX (t:=Ti) [(.const (.int .i64 (0)),_)] [0] rfl rfl cY (.cons rfl .int .nil) rfl rfl) ?_;refine gb (aX (t:=Ti) [(.const (.int .i64 (0)),_),(.const (.int .i64 (1)),_)] [0,1] rfl rfl cY (.cons rfl .int (.cons rfl .int .nil)) rfl rfl) ?_;refine ga (aX (t:=Ti) [(.const (.int .i64 (1)),_)] [1] rfl rfl cY (.cons rfl .int .nil) rfl rfl) ?_;refine gc (aX (t:=Tl) [(.tmp 94,_),(.tmp 95,_),(.tmp 96,_)] [[0],[0,1],[1]] rfl rfl lX (.cons rfl .rep (.cons rfl .rep (.cons rfl .rep .nil))) rfl rfl) ?_;obtain⟨mc,E,h⟩:=aa h;refine gb (av [.tmp 93,.tmp 97] rfl rfl M7 rfl (iH k r4.1 [[0],[0,1],[1]] mc E)) ?_;refine pt ?_;refine mq ?_;refine ce (s:=100) rfl (λhb=>?_) (λhb=>?_)
            .replace h:=eh (K1 hb) h;refine gm ?_;refine gc (aX (t:=Ti) [(.const (.int .i64 (0)),_),(.const (.int .i64 (1)),_),(.const (.int .i64 (3)),_)] [0,1,3] rfl rfl cY (.cons rfl .int (.cons rfl .int (.cons rfl .int .nil))) rfl rfl) ?_;obtain⟨gw,D,h⟩:=aa h;refine gb (av [.tmp 101,.tmp 102] rfl rfl M6 rfl (ji k r9.1 [0,1,3] gw D)) ?_;refine pt ?_;refine mq ?_;refine ce (s:=105) rfl (λhb=>?_) (λhb=>?_)
             .replace h:=eh (K1 hb) h;refine gm ?_;refine gb (aX (t:=Ti) [(.const (.int .i64 (1)),_),(.const (.int .i64 (2)),_)] [1,2] rfl rfl cY (.cons rfl .int (.cons rfl .int .nil)) rfl rfl) ?_;obtain⟨j,y,h⟩:=aa h;refine gb (av [.tmp 106,.tmp 107] rfl rfl M6 rfl (ji k l.1 [1,2] j y)) ?_;refine pt ?_;refine aq (nl ?_);exact jz ((),j) h []
             .replace h:=cH (K2 hb) h;iterate 3 refine gn ?_
              refine pf ?_;refine aq (nl ?_);exact jz ((),false) h []
            .replace h:=cH (K2 hb) h;iterate 3 refine gn ?_
             refine pf ?_;refine mq ?_;iterate 3 refine gn ?_
             refine pf ?_;refine aq (nl ?_);exact jz ((),false) h []
           .replace h:=cH (K2 hb) h;iterate 6 refine gn ?_
            refine pf ?_;refine mq ?_;iterate 3 refine gn ?_
            refine pf ?_;refine mq ?_;iterate 3 refine gn ?_
            refine pf ?_;refine aq (nl ?_);exact jz ((),false) h []
          .replace h:=cH (wj hb) h;iterate 8 refine gn ?_
           refine pf ?_;refine mq ?_;iterate 6 refine gn ?_
           refine pf ?_;refine mq ?_;iterate 3 refine gn ?_
           refine pf ?_;refine mq ?_;iterate 3 refine gn ?_
           refine pf ?_;refine aq (nl ?_);exact jz ((),false) h []
         .replace h:=cH (wj hb) h;iterate 2 refine gn ?_
          refine pf ?_;refine mq ?_;iterate 8 refine gn ?_
          refine pf ?_;refine mq ?_;iterate 6 refine gn ?_
          refine pf ?_;refine mq ?_;iterate 3 refine gn ?_
          refine pf ?_;refine mq ?_;iterate 3 refine gn ?_
          refine pf ?_;refine aq (nl ?_);exact jz ((),false) h []
        .replace h:=cH (wj hb) h;iterate 2 refine gn ?_
         refine pf ?_;refine mq ?_;iterate 2 refine gn ?_
         refine pf ?_;refine mq ?_;iterate 8 refine gn ?_
         refine pf ?_;refine mq ?_;iterate 6 refine gn ?_
         refine pf ?_;refine mq ?_;iterate 3 refine gn ?_
         refine pf ?_;refine mq ?_;iterate 3 refine gn ?_
         refine pf ?_;refine aq (nl ?_);exact jz ((),false) h []
       .replace h:=cH (wj hb) h;iterate 3 refine gn ?_
        refine pf ?_;refine mq ?_;iterate 2 refine gn ?_
        refine pf ?_;refine mq ?_;iterate 2 refine gn ?_
        refine pf ?_;refine mq ?_;iterate 8 refine gn ?_
        refine pf ?_;refine mq ?_;iterate 6 refine gn ?_
        refine pf ?_;refine mq ?_;iterate 3 refine gn ?_
        refine pf ?_;refine mq ?_;iterate 3 refine gn ?_
        refine pf ?_;refine aq (nl ?_);exact jz ((),false) h []
      .replace h:=cH (wj hb) h;iterate 2 refine gn ?_
       refine pf ?_;refine mq ?_;iterate 3 refine gn ?_
       refine pf ?_;refine mq ?_;iterate 2 refine gn ?_
       refine pf ?_;refine mq ?_;iterate 2 refine gn ?_
       refine pf ?_;refine mq ?_;iterate 8 refine gn ?_
       refine pf ?_;refine mq ?_;iterate 6 refine gn ?_
       refine pf ?_;refine mq ?_;iterate 3 refine gn ?_
       refine pf ?_;refine mq ?_;iterate 3 refine gn ?_
       refine pf ?_;refine aq (nl ?_);exact jz ((),false) h []
     .replace h:=cH (wj hb) h;iterate 2 refine gn ?_
      refine pf ?_;refine mq ?_;iterate 2 refine gn ?_
      refine pf ?_;refine mq ?_;iterate 3 refine gn ?_
      refine pf ?_;refine mq ?_;iterate 2 refine gn ?_
      refine pf ?_;refine mq ?_;iterate 2 refine gn ?_
      refine pf ?_;refine mq ?_;iterate 8 refine gn ?_
      refine pf ?_;refine mq ?_;iterate 6 refine gn ?_
      refine pf ?_;refine mq ?_;iterate 3 refine gn ?_
      refine pf ?_;refine mq ?_;iterate 3 refine gn ?_
      refine pf ?_;refine aq (nl ?_);exact jz ((),false) h []
    .replace h:=cH (wj hb) h;iterate 2 refine gn ?_
     refine pf ?_;refine mq ?_;iterate 2 refine gn ?_
     refine pf ?_;refine mq ?_;iterate 2 refine gn ?_
     refine pf ?_;refine mq ?_;iterate 3 refine gn ?_
     refine pf ?_;refine mq ?_;iterate 2 refine gn ?_
     refine pf ?_;refine mq ?_;iterate 2 refine gn ?_
     refine pf ?_;refine mq ?_;iterate 8 refine gn ?_
     refine pf ?_;refine mq ?_;iterate 6 refine gn ?_
     refine pf ?_;refine mq ?_;iterate 3 refine gn ?_
     refine pf ?_;refine mq ?_;iterate 3 refine gn ?_
     refine pf ?_;refine aq (nl ?_);exact jz ((),false) h []
   .replace h:=cH (wj hb) h;iterate 2 refine gn ?_
    refine pf ?_;refine mq ?_;iterate 2 refine gn ?_
    refine pf ?_;refine mq ?_;iterate 2 refine gn ?_
    refine pf ?_;refine mq ?_;iterate 2 refine gn ?_
    refine pf ?_;refine mq ?_;iterate 3 refine gn ?_
    refine pf ?_;refine mq ?_;iterate 2 refine gn ?_
    refine pf ?_;refine mq ?_;iterate 2 refine gn ?_
    refine pf ?_;refine mq ?_;iterate 8 refine gn ?_
    refine pf ?_;refine mq ?_;iterate 6 refine gn ?_
    refine pf ?_;refine mq ?_;iterate 3 refine gn ?_
    refine pf ?_;refine mq ?_;iterate 3 refine gn ?_
    refine pf ?_;refine aq (nl ?_);exact jz ((),false) h []
  .replace h:=cH (wj hb) h;iterate 2 refine gn ?_
   refine pf ?_;refine mq ?_;iterate 2 refine gn ?_
   refine pf ?_;refine mq ?_;iterate 2 refine gn ?_
   refine pf ?_;refine mq ?_;iterate 2 refine gn ?_
   refine pf ?_;refine mq ?_;iterate 2 refine gn ?_
   refine pf ?_;refine mq ?_;iterate 3 refine gn ?_
   refine pf ?_;refine mq ?_;iterate 2 refine gn ?_
   refine pf ?_;refine mq ?_;iterate 2 refine gn ?_
   refine pf ?_;refine mq ?_;iterate 8 refine gn ?_
   refine pf ?_;refine mq ?_;iterate 6 refine gn ?_
   refine pf ?_;refine mq ?_;iterate 3 refine gn ?_
   refine pf ?_;refine mq ?_;iterate 3 refine gn ?_
   refine pf ?_;refine aq (nl ?_);exact jz ((),false) h []
 .
  refine aA ?_;cases h;exact ra
def fP(k:Nat)(r4:(List Int)×bQ):Nat->((List Int)×Int×Int×Int×(List (List Int)))->Option ((List Int)×Int×Int×(List (List Int)))
 |0,_=>none
 |n+1,y7=>
  if y7.2.2.2.1 < (r4.1.length:Int) then((((fJ k (y7.1,y7.2.1,y7.2.2.1) 5).bind λc=>
  if c.1=true then(some (c.2.1,c.2.2.1,c.2.2.2,y7.2.2.2.2)) else((ck ((y7.2.2.2.2.length:Int) - 1)).bind λr=>
  (cG k (c.2.1,c.2.2.1,c.2.2.2) r).bind λe=>
  (aH y7.2.2.2.2 e.1).bind λj=>
  (aH r4.1 y7.2.2.2.1).bind λh=>
  (bR (be (length j+length [h]))).bind λ_=>
  some (e.2.1,e.2.2.1,e.2.2.2,List.set y7.2.2.2.2 (Int.toNat e.1) (j++[h])))):Option ((List Int)×Int×Int×(List (List Int)))).bind λx9=>
  (ck (y7.2.2.2.1+1)).bind λl=>
  fP k r4 n (x9.1,x9.2.1,x9.2.2.1,l,x9.2.2.2)) else(some (y7.1,y7.2.1,y7.2.2.1,y7.2.2.2.2))
def kP(k:Nat)(a0:bQ)(a1:Int):Option ((List (List Int))×bQ):=
 (gd k (a0.1,a0.2.1,a0.2.2) 1 3).bind λr1=>
 (bR (0≤r1.1/\be (Int.toNat r1.1))).bind λ_=>
 (iz k (r1.2.1,r1.2.2.1,r1.2.2.2) a1).bind λr4=>
 ((fP k r4 k (r4.2.1,r4.2.2.1,r4.2.2.2,0,List.replicate (Int.toNat r1.1) ([]:(List Int)))):Option ((List Int)×Int×Int×(List (List Int)))).bind λx5=>
 some (x5.2.2.2,(x5.1,x5.2.1,x5.2.2.1))
theorem vU(k:Nat)(a0:bQ)(c:Nat)(a1:Int)(r:(List (List Int))×bQ)(h:kP k a0 a1=some r):
 cP Tryz.prog 100 [Pt c,I a1] [.obj c 74 (.agg (.pair (.rep Tl a0.1) (.pair (I a0.2.1) (.eq (.int .u64 a0.2.2)))))] (λ_:Unit=>(bu [.rep (.slice Tl) r.1],[.obj c 74 (.agg (.pair (.rep Tl r.2.1) (.pair (I r.2.2.1) (.eq (.int .u64 r.2.2.2)))))])):=by
 unfold kP at h
 replace h:=aS h
 refine cP.of 42 Tryz.func100 rfl Tryz.ntmps100 rfl λS w0=>?_
 refine sr ?_
 refine cq ?_
 refine nt ?_
 refine sr ?_
 refine mq ?_
 obtain⟨r1,Wy,h⟩:=aa h
 have WA:=jP k (a0.1,a0.2.1,a0.2.2) c 1 3 r1 Wy
 refine kc (av [.tmp 9,.const (.int .i64 (1)),.const (.int .i64 (3))] rfl rfl M4 rfl WA) ?_
 obtain⟨u2,U,h⟩:=aa h
 refine aY rfl rfl rfl (PT (t:=.val) (d:=.slice none 0 0) rfl lX Q3 (ap U).1 (ap U).2) ⟨rfl,rfl,trivial⟩ λv3=>?_
 refine eE (JZ (F:=[.obj c 74 (.agg (.pair (.rep Tl r1.2.1) (.pair (I r1.2.2.1) (.eq (.int .u64 r1.2.2.2)))))])) ?_
 refine aq ?_
 refine nt ?_
 refine sr ?_
 iterate 2 refine mq ?_
 obtain⟨r4,Wx,h⟩:=aa h
 have Wz:=sR k (r1.2.1,r1.2.2.1,r1.2.2.2) c a1 r4 Wx
 refine kb (av [.tmp 12,.tmp 13] rfl rfl Tz rfl Wz) ?_
 refine aq ?_
 refine nt ?_
 refine aE (Z:=(Value×(Nat->Value))) (α:=(List Int)×Int×Int×(List (List Int))) (λz6 x5=>[(5,.eq z6.1)]) (λz6 x5=>[.obj c 74 (.agg (.pair (.rep Tl x5.1) (.pair (I x5.2.1) (.eq (.int .u64 x5.2.2.1)))))]++za 28 z6 x5.2.2.2) h (λK h=>?_) (λz6 x5 h=>?_)
 .
  refine sr (cq (nt (ai ?_)));refine aD (Z:=(Value×(Nat->Value))) (α:=(List Int)×Int×Int×Int×(List (List Int))) (λz8 y7=>[(0,Pt c),(5,.eq z8.1),(6,.rep Tl r4.1),(7,I y7.2.2.2.1)]) (λz8 y7=>[.obj c 74 (.agg (.pair (.rep Tl y7.1) (.pair (I y7.2.1) (.eq (.int .u64 y7.2.2.1)))))]++za 28 z8 y7.2.2.2.2) (fP k r4) k (v3,λ_=>.slice none 0 0) (r4.2.1,r4.2.2.1,r4.2.2.2,0,List.replicate (Int.toNat r1.1) ([]:(List Int))) (λ_=>rfl) h (lJ [.obj c 74 (.agg (.pair (.rep Tl r4.2.1) (.pair (I r4.2.2.1) (.eq (.int .u64 r4.2.2.2)))))] (za 28 (v3,λ_=>.slice none 0 0) (List.replicate (Int.toNat r1.1) ([]:(List Int)))) [0] ⟨rfl,rfl,rfl,rfl,trivial⟩ rfl) (λn z8 y7 h=>?_);unfold fP at h;refine aj (sr ?_);iterate 2 refine mq ?_
  refine ol gG ?_;refine jb (bp rfl) ?_;refine nt (ci h (λh=>?_) (λh=>?_))
  .refine sk (aE (Z:=(Value×(Nat->Value))) (α:=(List Int)×Int×Int×(List (List Int))) (λy x9=>[(0,Pt c),(5,.eq y.1),(6,.rep Tl r4.1),(7,I y7.2.2.2.1)]) (λy x9=>[.obj c 74 (.agg (.pair (.rep Tl x9.1) (.pair (I x9.2.1) (.eq (.int .u64 x9.2.2.1)))))]++za 28 y x9.2.2.2) h (λK h=>?_) (λy x9 h=>?_))
   .refine ai (aj (sr (mq ?_)));obtain⟨j,gw,h⟩:=aa h;refine kb (av [.tmp 21,.const (.int .i64 (5))] rfl rfl Qi rfl (kh k (y7.1,y7.2.1,y7.2.2.1) c 5 j gw)) ?_;refine nt (cv h (λh=>?_) (λh=>?_))
    .refine fF (bK (c6 (ax ?_)));exact wJ (z8,(j.2.1,j.2.2.1,j.2.2.2,y7.2.2.2.2)) h (lJ [.obj c 74 (.agg (.pair (.rep Tl j.2.1) (.pair (I j.2.2.1) (.eq (.int .u64 j.2.2.2)))))] (za 28 z8 y7.2.2.2.2) [0] ⟨rfl,rfl,rfl,rfl,trivial⟩ rfl)
    .refine sk (sr ?_);iterate 2 refine mq ?_
     refine J7 (pre:=[.obj c 74 (.agg (.pair (.rep Tl j.2.1) (.pair (I j.2.2.1) (.eq (.int .u64 j.2.2.2)))))]) rfl rfl rfl rfl rfl oa ⟨rfl,trivial⟩ ?_;obtain⟨mw,Q,h⟩:=aa h;refine jb (eC rfl Q) ?_;obtain⟨e,Y,h⟩:=aa h;refine kb (av [.tmp 23,.tmp 26] rfl rfl xq rfl (cS k (j.2.1,j.2.2.1,j.2.2.2) c mw e Y)) ?_;refine aq (nt ?_);obtain⟨x,s,h⟩:=aa h;refine iC (GY (pre:=[.obj c 74 (.agg (.pair (.rep Tl e.2.1) (.pair (I e.2.2.1) (.eq (.int .u64 e.2.2.2)))))]) (ES s).2) ?_;obtain⟨u,O,h⟩:=aa h;obtain⟨u16,X,h⟩:=aa h;refine Ko (Δ:=[.sl (z8.2 (Int.toNat e.1)) 3 Ti x,.sl z8.1 28 .val (o9 z8.2 0 y7.2.2.2.2),.obj c 74 (.agg (.pair (.rep Tl e.2.1) (.pair (I e.2.2.1) (.eq (.int .u64 e.2.2.2)))))]) (F:=(oW z8.2 0 y7.2.2.2.2).eraseIdx (Int.toNat e.1)) (Z:=Value) (λi=>[(0,Pt c),(5,.eq z8.1),(6,.rep Tl r4.1),(7,I y7.2.2.2.1)]) (λi=>[.sl z8.1 28 .val (List.set (o9 z8.2 0 y7.2.2.2.2) (Int.toNat e.1) i),.sl i 3 Ti (x++[u]),.obj c 74 (.agg (.pair (.rep Tl e.2.1) (.pair (I e.2.2.1) (.eq (.int .u64 e.2.2.2)))))]) (λS w=>?_) (λl=>?_)
     .refine qc ?_;refine bT rfl rfl rfl (aW rfl) ⟨rfl,trivial⟩ ?_;refine bT rfl rfl rfl (aW rfl) ⟨rfl,trivial⟩ ?_;refine bT rfl rfl rfl (aW rfl) ⟨rfl,trivial⟩ ?_;refine bT rfl rfl rfl (aW rfl) ⟨rfl,trivial⟩ ?_;refine hJ 1 rfl rfl rfl rfl (cI (t:=.val) rfl oa eR (uR s)) ⟨rfl,rfl,trivial⟩ ?_;refine hJ 1 rfl rfl rfl rfl (gZ (i:=Int.toNat e.1) (off:=0) rfl eR (λ_=>rfl) rfl (dM (uR s)).2.2 rfl) ⟨rfl,trivial⟩ ?_;refine bT rfl rfl rfl (aW rfl) ⟨rfl,trivial⟩ ?_;refine bT rfl rfl rfl (aW rfl) ⟨rfl,trivial⟩ ?_;refine bT rfl rfl rfl (aC (t:=Ti) rfl gG bW O) ⟨rfl,rfl,trivial⟩ ?_;refine bT rfl rfl rfl (an (t:=Ti) rfl bW rfl) ⟨rfl,trivial⟩ ?_;refine bT rfl rfl rfl (aX (t:=Ti) [(.tmp 37,_)] [u] rfl rfl cY (.cons rfl .int .nil) rfl rfl) ⟨rfl,trivial⟩ ?_;refine Kx 0 rfl (λv=>[.sl v 3 Ti (x++[u])]) (λ_=>rfl) rfl rfl rfl (bq rfl rfl cY (ap X)) ⟨rfl,rfl,trivial⟩ ?_;refine uk 12 [true,true,true,true,true,true,true,true,true,true,true,true] [40] [] [] rfl (by kernel_rfl) (by kernel_rfl) (by kernel_rfl) cU (λvs hv hB=>?_);obtain⟨w0,WQ,rfl,Wv⟩:=aF hv;obtain⟨w1,WP,rfl,Wu⟩:=aF Wv;obtain⟨w2,WO,rfl,Wt⟩:=aF Wu;obtain⟨w3,WN,rfl,Ws⟩:=aF Wt;obtain⟨w4,WM,rfl,Wq⟩:=aF Ws;obtain⟨w5,WL,rfl,Wp⟩:=aF Wq;obtain⟨w6,WJ,rfl,Wn⟩:=aF Wp;obtain⟨w7,WI,rfl,zz⟩:=aF Wn;obtain⟨w8,WH,rfl,qt⟩:=aF zz;obtain⟨w9,WE,rfl,J⟩:=aF qt;obtain⟨WG,WC,rfl,E⟩:=aF J;obtain⟨l,WB,rfl,D⟩:=aF E;obtain rfl:=qq D;refine⟨[0,1,2],[.sl z8.1 28 .val (o9 z8.2 0 y7.2.2.2.2),.obj c 74 (.agg (.pair (.rep Tl e.2.1) (.pair (I e.2.2.1) (.eq (.int .u64 e.2.2.2))))),.sl l 3 Ti (x++[u])],by kernel_rfl,by decide,?_⟩;refine ug rfl rfl rfl rfl (cI (t:=.val) rfl oa eR (uR s)) ⟨rfl,rfl,trivial⟩ (by kernel_rfl) ?_;refine pZ 2 rfl ?_;refine QI λo18=>?_;refine pZ 1 rfl ?_;refine uh rfl rfl (io (i:=Int.toNat e.1) rfl eR rfl (oG (uR s)) rfl (.val o18) o18) ⟨rfl,rfl,trivial⟩ (by kernel_rfl) ?_;refine wH ?_;refine bC (SE.fin (Γ':=[(0,Pt c),(5,.eq z8.1),(6,.rep Tl r4.1),(7,I y7.2.2.2.1)]) (Δ':=[.sl z8.1 28 .val (List.set (o9 z8.2 0 y7.2.2.2.2) (Int.toNat e.1) l),.sl l 3 Ti (x++[u]),.obj c 74 (.agg (.pair (.rep Tl e.2.1) (.pair (I e.2.2.1) (.eq (.int .u64 e.2.2.2)))))]) [0,1,2] ⟨rfl,rfl,rfl,rfl,trivial⟩ rfl) ?_;exact λa w st=>⟨rfl,(l),(SE.fin (Γ':=[(0,Pt c),(5,.eq z8.1),(6,.rep Tl r4.1),(7,I y7.2.2.2.1)]) (Δ':=[.sl z8.1 28 .val (List.set (o9 z8.2 0 y7.2.2.2.2) (Int.toNat e.1) l),.sl l 3 Ti (x++[u]),.obj c 74 (.agg (.pair (.rep Tl e.2.1) (.pair (I e.2.2.1) (.eq (.int .u64 e.2.2.2)))))]) [0,1,2] ⟨rfl,rfl,rfl,rfl,trivial⟩ rfl) a w st⟩
     .show JN _ _ [(0,Pt c),(5,.eq z8.1),(6,.rep Tl r4.1),(7,I y7.2.2.2.1)] ([.sl z8.1 28 .val (List.set (o9 z8.2 0 y7.2.2.2.2) (Int.toNat e.1) l),.sl l 3 Ti (x++[u]),.obj c 74 (.agg (.pair (.rep Tl e.2.1) (.pair (I e.2.2.1) (.eq (.int .u64 e.2.2.2)))))]++(oW z8.2 0 y7.2.2.2.2).eraseIdx (Int.toNat e.1));refine bI 1 rfl ?_;refine bC (Ef (pre:=[.obj c 74 (.agg (.pair (.rep Tl e.2.1) (.pair (I e.2.2.1) (.eq (.int .u64 e.2.2.2)))))]) (z:=z8) (i:=Int.toNat e.1) (ES s).2) ?_;refine bn ?_;exact wJ ((z8.1,C3 z8.2 (Int.toNat e.1) l),(e.2.1,e.2.2.1,e.2.2.2,List.set y7.2.2.2.2 (Int.toNat e.1) (x++[u]))) h (lJ [.obj c 74 (.agg (.pair (.rep Tl e.2.1) (.pair (I e.2.2.1) (.eq (.int .u64 e.2.2.2)))))] (za 28 (z8.1,C3 z8.2 (Int.toNat e.1) l) (List.set y7.2.2.2.2 (Int.toNat e.1) (x++[u]))) [0] ⟨rfl,rfl,rfl,rfl,trivial⟩ rfl)
   .refine ae (mq ?_);obtain⟨mc,M,h⟩:=aa h;refine jb (bi rfl M) ?_;refine aq (nl ?_);exact wJ (y,(x9.1,x9.2.1,x9.2.2.1,mc,x9.2.2.2)) h (lJ [.obj c 74 (.agg (.pair (.rep Tl x9.1) (.pair (I x9.2.1) (.eq (.int .u64 x9.2.2.1)))))] (za 28 y x9.2.2.2) [0] ⟨rfl,rfl,rfl,rfl,trivial⟩ rfl)
  .refine xa ?_;exact wJ (z8,(y7.1,y7.2.1,y7.2.2.1,y7.2.2.2.2)) h (lJ [.obj c 74 (.agg (.pair (.rep Tl y7.1) (.pair (I y7.2.1) (.eq (.int .u64 y7.2.2.1)))))] (za 28 z8 y7.2.2.2.2) [0] ⟨rfl,trivial⟩ rfl)
 .
  refine sr (mq ?_);refine aq (nt (aA ?_));refine bC (J0 (pre:=[.obj c 74 (.agg (.pair (.rep Tl x5.1) (.pair (I x5.2.1) (.eq (.int .u64 x5.2.2.1)))))])) ?_;refine bC (gB [4,5,41] ⟨rfl,rfl,rfl,trivial⟩) ?_;cases h;exact aQ () [_] 1 ⟨rfl,trivial⟩ rfl
def fQ(k:Nat)(r2:Int×bQ):Nat->((List Int)×Int×Int×(List (List (List Int)))×Int)->Option ((List (List (List Int)))×(List Int)×Int×Int)
 |0,_=>none
 |n+1,c=>
  if 0 < c.2.2.2.2 then(((((if 0 < (c.2.2.2.1.length:Int) then((fJ k (c.1,c.2.1,c.2.2.1) 3).bind λl=>
  some (l.2.1,l.2.2.1,l.2.2.2,l.1)) else(some (c.1,c.2.1,c.2.2.1,false))):Option ((List Int)×Int×Int×Bool)).bind λe=>
  if e.2.2.2=true then((ck ((c.2.2.2.1.length:Int) - 1)).bind λx=>
  (aH c.2.2.2.1 x).bind λu=>
  (g9 k u).bind λr=>
  (bR (be (length c.2.2.2.1+length [r]))).bind λ_=>
  some (e.1,e.2.1,e.2.2.1,c.2.2.2.1++[r])) else((kP k (e.1,e.2.1,e.2.2.1) r2.1).bind λh=>
  (bR (be (length c.2.2.2.1+length [h.1]))).bind λ_=>
  some (h.2.1,h.2.2.1,h.2.2.2,c.2.2.2.1++[h.1]))):Option ((List Int)×Int×Int×(List (List (List Int))))).bind λj=>
  (ck (c.2.2.2.2 - 1)).bind λs=>
  fQ k r2 n (j.1,j.2.1,j.2.2.1,j.2.2.2,s)) else(some (c.2.2.2.1,c.1,c.2.1,c.2.2.1))
def kQ(k:Nat)(a0:bQ)(a1:Int)(a2:Int):Option (ab×bQ):=
 (gd k (a0.1,a0.2.1,a0.2.2) 1 a1).bind λr2=>
 (cG k (r2.2.1,r2.2.2.1,r2.2.2.2) 3).bind λr3=>
 (iy k (r3.2.1,r3.2.2.1,r3.2.2.2) [0,1,1,2,r3.1]).bind λr4=>
 (cG k (r4.2.1,r4.2.2.1,r4.2.2.2) 3).bind λr5=>
 (iy k (r5.2.1,r5.2.2.1,r5.2.2.2) [0,1,2,r5.1]).bind λr6=>
 (gd k (r6.2.1,r6.2.2.1,r6.2.2.2) 1 3).bind λr7=>
 (iy k (r7.2.1,r7.2.2.1,r7.2.2.2) [1,2,r7.1]).bind λr8=>
 (((gd k (r8.2.1,r8.2.2.1,r8.2.2.2) 1 a2).bind λe=>
 fQ k r2 k (e.2.1,e.2.2.1,e.2.2.2,([]:(List (List (List Int)))),e.1)):Option ((List (List (List Int)))×(List Int)×Int×Int)).bind λc=>
 some ((r2.1,r4.1,r6.1,r8.1,c.1,[]),(c.2.1,c.2.2.1,c.2.2.2))
theorem vW(k:Nat)(a0:bQ)(c:Nat)(a1:Int)(a2:Int)(r:ab×bQ)(h:kQ k a0 a1 a2=some r):
 cP Tryz.prog 65 [Pt c,I a1,I a2] [.obj c 74 (.agg (.pair (.rep Tl a0.1) (.pair (I a0.2.1) (.eq (.int .u64 a0.2.2)))))] (λ_:Unit=>(bu [.agg (.pair (I r.1.1) (.pair (I r.1.2.1) (.pair (I r.1.2.2.1) (.pair (I r.1.2.2.2.1) (.pair (.rep (.slice (.slice Tl)) r.1.2.2.2.2.1) (.eq (.slice none 0 0)))))))],[.obj c 74 (.agg (.pair (.rep Tl r.2.1) (.pair (I r.2.2.1) (.eq (.int .u64 r.2.2.2)))))])):=by
 unfold kQ at h
 replace h:=aS h
 refine cP.of 67 Tryz.func65 rfl Tryz.ntmps65 rfl λS w0=>?_
 refine sr ?_
 refine aY rfl rfl rfl (bA rfl ve zM) trivial λb1=>?_
 refine nt ?_
 refine sr ?_
 iterate 2 refine mq ?_
 obtain⟨r2,WB,h⟩:=aa h
 have WL:=jP k (a0.1,a0.2.1,a0.2.2) c 1 a1 r2 WB
 refine fr 1 ?_
 refine kc (av [.tmp 10,.const (.int .i64 (1)),.tmp 11] rfl rfl M4 rfl WL) ?_
 iterate 2 refine mq ?_
 obtain⟨r3,WA,h⟩:=aa h
 have WJ:=cS k (r2.2.1,r2.2.2.1,r2.2.2.2) c 3 r3 WA
 refine kb (av [.tmp 14,.const (.int .i64 (3))] rfl rfl xq rfl WJ) ?_
 refine cp rfl (aX (t:=Ti) [(.const (.int .i64 (0)),_),(.const (.int .i64 (1)),_),(.const (.int .i64 (1)),_),(.const (.int .i64 (2)),_),(.tmp 15,_)] [0,1,1,2,r3.1] rfl rfl cY (.cons rfl .int (.cons rfl .int (.cons rfl .int (.cons rfl .int (.cons rfl .int .nil))))) rfl rfl) ⟨rfl,rfl,rfl,rfl,rfl,trivial⟩ ?_
 obtain⟨r4,Wz,h⟩:=aa h
 have WI:=my k (r3.2.1,r3.2.2.1,r3.2.2.2) c [0,1,1,2,r3.1] r4 Wz
 refine kb (av [.tmp 13,.tmp 16] rfl rfl Qf rfl WI) ?_
 iterate 2 refine mq ?_
 obtain⟨r5,Wy,h⟩:=aa h
 have WH:=cS k (r4.2.1,r4.2.2.1,r4.2.2.2) c 3 r5 Wy
 refine kb (av [.tmp 19,.const (.int .i64 (3))] rfl rfl xq rfl WH) ?_
 refine cp rfl (aX (t:=Ti) [(.const (.int .i64 (0)),_),(.const (.int .i64 (1)),_),(.const (.int .i64 (2)),_),(.tmp 20,_)] [0,1,2,r5.1] rfl rfl cY (.cons rfl .int (.cons rfl .int (.cons rfl .int (.cons rfl .int .nil)))) rfl rfl) ⟨rfl,rfl,rfl,rfl,trivial⟩ ?_
 obtain⟨r6,Wx,h⟩:=aa h
 have WG:=my k (r5.2.1,r5.2.2.1,r5.2.2.2) c [0,1,2,r5.1] r6 Wx
 refine kb (av [.tmp 18,.tmp 21] rfl rfl Qf rfl WG) ?_
 iterate 2 refine mq ?_
 obtain⟨r7,Wv,h⟩:=aa h
 have WE:=jP k (r6.2.1,r6.2.2.1,r6.2.2.2) c 1 3 r7 Wv
 refine kc (av [.tmp 24,.const (.int .i64 (1)),.const (.int .i64 (3))] rfl rfl M4 rfl WE) ?_
 refine jc (aX (t:=Ti) [(.const (.int .i64 (1)),_),(.const (.int .i64 (2)),_),(.tmp 25,_)] [1,2,r7.1] rfl rfl cY (.cons rfl .int (.cons rfl .int (.cons rfl .int .nil))) rfl rfl) ?_
 obtain⟨r8,Wu,h⟩:=aa h
 have WC:=my k (r7.2.1,r7.2.2.1,r7.2.2.2) c [1,2,r7.1] r8 Wu
 refine kb (av [.tmp 23,.tmp 26] rfl rfl Qf rfl WC) ?_
 refine cp rfl (eH [(0,.tmp 12,_),(1,.tmp 17,_),(2,.tmp 22,_),(3,.tmp 27,_)] rfl Rw ve OP (kH ⟨rfl,rfl,rfl,rfl,trivial⟩) rfl) ⟨rfl,rfl,rfl,rfl,trivial⟩ ?_
 refine aY rfl rfl rfl (bA rfl ve zM) trivial λb9=>?_
 refine aP rfl rfl (aN rfl dp trivial rfl rfl) ⟨rfl,rfl,trivial⟩ ?_
 refine nt ?_
 refine aE (Z:=Value) (α:=(List (List (List Int)))×(List Int)×Int×Int) (λJ y=>[(6,Pt b1),(7,Pt b9)]) (λJ y=>[.obj b1 25 (.agg (.pair (I 0) (.pair (I 0) (.pair (I 0) (.pair (I 0) (.pair (.eq (.slice none 0 0)) (.eq (.slice none 0 0)))))))),.obj b9 25 (.agg (.pair (I r2.1) (.pair (I r4.1) (.pair (I r6.1) (.pair (I r8.1) (.pair (.eq J) (.eq (.slice none 0 0)))))))),.sl J 36 (.slice Tl) y.1,.obj c 74 (.agg (.pair (.rep Tl y.2.1) (.pair (I y.2.2.1) (.eq (.int .u64 y.2.2.2)))))]) h (λK h=>?_) (λJ y h=>?_)
 .
  refine sr ?_;iterate 2 refine mq ?_
  obtain⟨F,zz,h⟩:=aa h;refine fr 1 ?_;refine kc (av [.tmp 29,.const (.int .i64 (1)),.tmp 30] rfl rfl M4 rfl (jP k (r8.2.1,r8.2.2.1,r8.2.2.2) c 1 a2 F zz)) ?_;refine aq (nt (ai ?_));refine iC (SE.nil 36 (.slice Tl)) ?_;refine aD (λu e=>[(0,Pt c),(6,Pt b1),(7,Pt b9),(8,I e.2.2.2.2)]) (λu e=>[.obj c 74 (.agg (.pair (.rep Tl e.1) (.pair (I e.2.1) (.eq (.int .u64 e.2.2.1))))),.obj b1 25 (.agg (.pair (I 0) (.pair (I 0) (.pair (I 0) (.pair (I 0) (.pair (.eq (.slice none 0 0)) (.eq (.slice none 0 0)))))))),.obj b9 25 (.agg (.pair (I r2.1) (.pair (I r4.1) (.pair (I r6.1) (.pair (I r8.1) (.pair (.eq u) (.eq (.slice none 0 0)))))))),.sl u 36 (.slice Tl) e.2.2.2.1]) (fQ k r2) k (.slice none 0 0) (F.2.1,F.2.2.1,F.2.2.2,([]:(List (List (List Int)))),F.1) (λ_=>rfl) h (SE.fin [1,3,2,0] ⟨rfl,rfl,rfl,rfl,trivial⟩ rfl) (λn u e h=>?_);unfold fQ at h;refine aj (sr (mq ?_));refine jb (jp rfl) ?_;refine nt (ci h (λh=>?_) (λh=>?_))
  .refine sk (aE (Z:=Value) (α:=(List Int)×Int×Int×(List (List (List Int)))) (λD l=>[(0,Pt c),(6,Pt b1),(7,Pt b9),(8,I e.2.2.2.2)]) (λD l=>[.obj c 74 (.agg (.pair (.rep Tl l.1) (.pair (I l.2.1) (.eq (.int .u64 l.2.2.1))))),.obj b1 25 (.agg (.pair (I 0) (.pair (I 0) (.pair (I 0) (.pair (I 0) (.pair (.eq (.slice none 0 0)) (.eq (.slice none 0 0)))))))),.obj b9 25 (.agg (.pair (I r2.1) (.pair (I r4.1) (.pair (I r6.1) (.pair (I r8.1) (.pair (.eq D) (.eq (.slice none 0 0)))))))),.sl D 36 (.slice Tl) l.2.2.2]) h (λK h=>?_) (λD l h=>?_))
   .refine ai (aj (sr (fl cf ?_)));refine fr 2 ?_;refine lo fG ?_;refine fr 3 ?_;refine ka (nN rfl rfl pU) ?_;refine aq (nt ?_);refine aE (Z:=Unit) (α:=(List Int)×Int×Int×Bool) (λQ j=>[(0,Pt c),(6,Pt b1),(7,Pt b9),(8,I e.2.2.2.2),(9,I (e.2.2.2.1.length:Int)),(44,.eq (.bool j.2.2.2))]) (λQ j=>[.obj c 74 (.agg (.pair (.rep Tl j.1) (.pair (I j.2.1) (.eq (.int .u64 j.2.2.1))))),.obj b1 25 (.agg (.pair (I 0) (.pair (I 0) (.pair (I 0) (.pair (I 0) (.pair (.eq (.slice none 0 0)) (.eq (.slice none 0 0)))))))),.obj b9 25 (.agg (.pair (I r2.1) (.pair (I r4.1) (.pair (I r6.1) (.pair (I r8.1) (.pair (.eq u) (.eq (.slice none 0 0)))))))),.sl u 36 (.slice Tl) e.2.2.2.1]) h (λK h=>?_) (λQ j h=>?_)
    .refine ae (mq ?_);refine jb (jp rfl) ?_;refine mq ?_;refine ce (s:=41) rfl (λhb=>?_) (λhb=>?_)
     .replace h:=eh (wi hb) h;refine gm ?_;obtain⟨E,qt,h⟩:=aa h;refine fr 2 ?_;refine eW rfl rfl rfl rfl rfl rfl (av [.tmp 42,.const (.int .i64 (3))] rfl rfl Qi rfl (kh k (e.1,e.2.1,e.2.2.1) c 3 E qt)) ⟨rfl,rfl,trivial⟩ ?_;refine pt (nl ?_);exact jz ((),(E.2.1,E.2.2.1,E.2.2.2,E.1)) h [0,3,2,1]
     .replace h:=cH (wj hb) h;iterate 2 refine gn ?_
      refine pf (nl ?_);exact jz ((),(e.1,e.2.1,e.2.2.1,false)) h [2,3,1,0]
    .refine cv h (λh=>?_) (λh=>?_)
     .refine aj (bL ?_);refine da (au rfl cf) ?_;refine ea 2 (ao rfl fG jr rfl) ?_;refine da (au rfl cf) ?_;refine ea 2 (ao rfl fG jr rfl) ?_;refine dm ?_;obtain⟨Wq,X,h⟩:=aa h;refine db (eC rfl X) ?_;obtain⟨Wp,M,h⟩:=aa h;refine eb 3 (cI (t:=(.slice Tl)) rfl pU kF M) ?_;refine ea 3 (gZ (i:=Int.toNat Wq) (off:=0) rfl kF (λ_=>rfl) rfl (dM M).2.2 rfl) ?_;obtain⟨O,mw,h⟩:=aa h;refine da (zR (av [.tmp 52] rfl rfl S7 rfl (nS k Wp O mw))) ?_;refine da (aX (t:=(.slice Tl)) [(.tmp 53,_)] [O] rfl rfl yL (.cons rfl .rep .nil) rfl rfl) ?_;refine df cU ?_;obtain⟨WN,gw,h⟩:=aa h;refine fr 3 ?_;refine cQ rfl rfl rfl (bq rfl rfl yL (ap gw)) ⟨rfl,rfl,trivial⟩ λWt=>?_;refine fl cf ?_;refine oM λo25=>?_;refine fr 3 ?_;refine aP rfl rfl (aN rfl fG o25 rfl rfl) ⟨rfl,rfl,trivial⟩ ?_;refine nt (fF (bK (c6 (ax ?_))));exact jz (Wt,(j.1,j.2.1,j.2.2.1,e.2.2.2.1++[O])) h [2,3,0,1]
     .refine sk (bL ?_);refine da (au rfl cf) ?_;refine ea 2 (ao rfl fG jr rfl) ?_;refine dm ?_;refine da (au rfl fK) ?_;refine ea 2 (ao rfl bW jr rfl) ?_;obtain⟨x,mc,h⟩:=aa h;refine FK 0 rfl rfl rfl rfl (av [.tmp 59,.tmp 61] rfl rfl TG rfl (vU k (j.1,j.2.1,j.2.2.1) c r2.1 x mc)) ⟨rfl,rfl,trivial⟩ ?_;refine da (aX (t:=(.slice Tl)) [(.tmp 62,_)] [x.1] rfl rfl yL (.cons rfl .rep .nil) rfl rfl) ?_;refine FM (Δ':=[.obj b1 25 (.agg (.pair (I 0) (.pair (I 0) (.pair (I 0) (.pair (I 0) (.pair (.eq (.slice none 0 0)) (.eq (.slice none 0 0)))))))),.obj b9 25 (.agg (.pair (I r2.1) (.pair (I r4.1) (.pair (I r6.1) (.pair (I r8.1) (.pair (.eq u) (.eq (.slice none 0 0)))))))),.sl u 36 (.slice Tl) e.2.2.2.1,.obj c 74 (.agg (.pair (.rep Tl x.2.1) (.pair (I x.2.2.1) (.eq (.int .u64 x.2.2.2)))))]) (by kernel_rfl) cU (by kernel_rfl) ?_;obtain⟨WM,Y,h⟩:=aa h;refine fr 2 ?_;refine cQ rfl rfl rfl (bq rfl rfl yL (ap Y)) ⟨rfl,rfl,trivial⟩ λWs=>?_;refine fl cf ?_;refine oM λo29=>?_;refine fr 2 ?_;refine aP rfl rfl (aN rfl fG o29 rfl rfl) ⟨rfl,rfl,trivial⟩ ?_;refine aG (bn ?_);exact jz (Ws,(x.2.1,x.2.2.1,x.2.2.2,e.2.2.2.1++[x.1])) h [3,2,0,1]
   .refine ae (mq ?_);obtain⟨Wn,U,h⟩:=aa h;refine jb (eC rfl U) ?_;refine aq (nl ?_);exact jz (D,(l.1,l.2.1,l.2.2.1,l.2.2.2,Wn)) h [0,1,2,3]
  .refine xa ?_;exact jz (u,(e.2.2.2.1,e.1,e.2.1,e.2.2.1)) h [1,2,3,0]
 .
  refine sr (fr 1 ?_);refine fr 2 ?_;refine eE (jm (off:=4) [] trivial rfl rfl) ?_;refine lo dp ?_;refine fr 1 ?_;refine aP rfl rfl (aN rfl dp trivial rfl rfl) ⟨rfl,rfl,trivial⟩ ?_;refine nt (aA (bC (SE.fin (Γ':=[(6,_)]) [2,0,1] ⟨rfl,trivial⟩ rfl) ?_));cases h;exact aQ () [.agg (.pair (I r2.1) (.pair (I r4.1) (.pair (I r6.1) (.pair (I r8.1) (.pair (.rep (.slice (.slice Tl)) y.1) (.eq (.slice none 0 0)))))))] 1 ⟨⟨_,_,_,_,_,rfl,(.tail _ (.head _)),dp,(qp),rfl⟩,trivial⟩ rfl
def eQ(k:Nat)(r2:ab×bQ):Nat->((List Int)×Int×Int×(List aR)×Int)->Option ((List aR)×(List Int)×Int×Int)
 |0,_=>none
 |n+1,y7=>
  if 0 < y7.2.2.2.2 then((iW k (y7.1,y7.2.1,y7.2.2.1) (r2.1.1,r2.1.2.1,r2.1.2.2.1,r2.1.2.2.2.1,r2.1.2.2.2.2.1,())).bind λr9=>
  (bR (be (length y7.2.2.2.1+length [r9.1]))).bind λ_=>
  (ck (y7.2.2.2.2 - 1)).bind λc=>
  eQ k r2 n (r9.2.1,r9.2.2.1,r9.2.2.2,y7.2.2.2.1++[r9.1],c)) else(some (y7.2.2.2.1,y7.1,y7.2.1,y7.2.2.1))
def iV(k:Nat)(a0:bQ)(a1:Int)(a2:Int):Option (ab×bQ):=
 (kQ k (a0.1,a0.2.1,a0.2.2) a1 a2).bind λr2=>
 (((cG k (r2.2.1,r2.2.2.1,r2.2.2.2) 4).bind λr6=>
 eQ k r2 k (r6.2.1,r6.2.2.1,r6.2.2.2,([]:(List aR)),r6.1)):Option ((List aR)×(List Int)×Int×Int)).bind λx4=>
 some ((r2.1.1,r2.1.2.1,r2.1.2.2.1,r2.1.2.2.2.1,r2.1.2.2.2.2.1,x4.1),(x4.2.1,x4.2.2.1,x4.2.2.2))
theorem tV(k:Nat)(a0:bQ)(c:Nat)(a1:Int)(a2:Int)(r:ab×bQ)(h:iV k a0 a1 a2=some r):
 cP Tryz.prog 33 [Pt c,I a1,I a2] [.obj c 74 (.agg (.pair (.rep Tl a0.1) (.pair (I a0.2.1) (.eq (.int .u64 a0.2.2)))))] (λ_:Unit=>(bu [.rep am r.1],[.obj c 74 (.agg (.pair (.rep Tl r.2.1) (.pair (I r.2.2.1) (.eq (.int .u64 r.2.2.2)))))])):=by
 unfold iV at h
 replace h:=aS h
 refine cP.of 28 Tryz.func33 rfl Tryz.ntmps33 rfl λS w0=>?_
 refine sr ?_
 refine aY rfl rfl rfl (bA rfl ve zM) trivial λb1=>?_
 refine nt ?_
 refine sr ?_
 iterate 3 refine mq ?_
 obtain⟨r2,D,h⟩:=aa h
 have E:=vW k (a0.1,a0.2.1,a0.2.2) c a1 a2 r2 D
 refine fr 1 ?_
 refine kc (av [.tmp 9,.tmp 10,.tmp 11] rfl rfl Vg rfl E) ?_
 refine aY rfl rfl rfl (bA rfl ve zM) trivial λb3=>?_
 refine aP rfl rfl (aN rfl dp trivial rfl rfl) ⟨rfl,rfl,trivial⟩ ?_
 refine nt ?_
 refine aE (Z:=Value) (α:=(List aR)×(List Int)×Int×Int) (λz5 x4=>[(6,Pt b1),(7,Pt b3)]) (λz5 x4=>[.obj b1 25 (.agg (.pair (I 0) (.pair (I 0) (.pair (I 0) (.pair (I 0) (.pair (.eq (.slice none 0 0)) (.eq (.slice none 0 0)))))))),.obj b3 25 (.agg (.pair (I r2.1.1) (.pair (I r2.1.2.1) (.pair (I r2.1.2.2.1) (.pair (I r2.1.2.2.2.1) (.pair (.rep (.slice (.slice Tl)) r2.1.2.2.2.2.1) (.eq z5))))))),.sl z5 27 aJ x4.1,.obj c 74 (.agg (.pair (.rep Tl x4.2.1) (.pair (I x4.2.2.1) (.eq (.int .u64 x4.2.2.2)))))]) h (λK h=>?_) (λz5 x4 h=>?_)
 .
  refine sr (mq ?_);obtain⟨r6,y,h⟩:=aa h;refine fr 1 ?_;refine kb (av [.tmp 13,.const (.int .i64 (4))] rfl rfl xq rfl (cS k (r2.2.1,r2.2.2.1,r2.2.2.2) c 4 r6 y)) ?_;refine aq (nt (ai ?_));refine iC (SE.nil 27 aJ) ?_;refine aD (λz8 y7=>[(0,Pt c),(6,Pt b1),(7,Pt b3),(8,I y7.2.2.2.2)]) (λz8 y7=>[.obj c 74 (.agg (.pair (.rep Tl y7.1) (.pair (I y7.2.1) (.eq (.int .u64 y7.2.2.1))))),.obj b1 25 (.agg (.pair (I 0) (.pair (I 0) (.pair (I 0) (.pair (I 0) (.pair (.eq (.slice none 0 0)) (.eq (.slice none 0 0)))))))),.obj b3 25 (.agg (.pair (I r2.1.1) (.pair (I r2.1.2.1) (.pair (I r2.1.2.2.1) (.pair (I r2.1.2.2.2.1) (.pair (.rep (.slice (.slice Tl)) r2.1.2.2.2.2.1) (.eq z8))))))),.sl z8 27 aJ y7.2.2.2.1]) (eQ k r2) k (.slice none 0 0) (r6.2.1,r6.2.2.1,r6.2.2.2,([]:(List aR)),r6.1) (λ_=>rfl) h (SE.fin [1,3,2,0] ⟨rfl,rfl,rfl,rfl,trivial⟩ rfl) (λn z8 y7 h=>?_);unfold eQ at h;refine aj (sr (mq ?_));refine jb (jp rfl) ?_;refine nt (ci h (λh=>?_) (λh=>?_))
  .refine sk (aj (ai (bL ?_)));refine da (au rfl fS) ?_;refine ea 2 (ao rfl nF jr rfl) ?_;refine dm ?_;refine ea 2 (ao rfl dp (qp) rfl) ?_;obtain⟨r9,u,h⟩:=aa h;refine FK 0 rfl rfl rfl rfl (bH (N:=[(.tmp 21,Pt c),(.tmp 22,.agg (.pair (I r2.1.1) (.pair (I r2.1.2.1) (.pair (I r2.1.2.2.1) (.pair (I r2.1.2.2.2.1) (.pair (.rep (.slice (.slice Tl)) r2.1.2.2.2.2.1) (.eq z8)))))))]) (av [.tmp 21,.tmp 22] rfl rfl Vf rfl (tX k (y7.1,y7.2.1,y7.2.2.1) c (r2.1.1,r2.1.2.1,r2.1.2.2.1,r2.1.2.2.2.1,r2.1.2.2.2.2.1,()) r9 u)) λ_ _ _ hn=>⟨hn.1,(NJ (t:=(.pair Ti (.pair Ti (.pair Ti (.pair Ti (.pair (.slice (.slice Tl)) .ign)))))) (x:=(r2.1.1,r2.1.2.1,r2.1.2.2.1,r2.1.2.2.2.1,r2.1.2.2.2.2.1,())) (qe (kw .int) (qe (kw .int) (qe (kw .int) (qe (kw .int) (qe (kw .rep) Of))))) hn.2.1),trivial⟩) ⟨rfl,rfl,trivial⟩ ?_;refine da (aX (t:=aJ) [(.tmp 23,_)] [r9.1] rfl rfl Az (.cons rfl .rep .nil) rfl rfl) ?_;refine FM (Δ':=[.obj b1 25 (.agg (.pair (I 0) (.pair (I 0) (.pair (I 0) (.pair (I 0) (.pair (.eq (.slice none 0 0)) (.eq (.slice none 0 0)))))))),.obj b3 25 (.agg (.pair (I r2.1.1) (.pair (I r2.1.2.1) (.pair (I r2.1.2.2.1) (.pair (I r2.1.2.2.2.1) (.pair (.rep (.slice (.slice Tl)) r2.1.2.2.2.2.1) (.eq z8))))))),.sl z8 27 aJ y7.2.2.2.1,.obj c 74 (.agg (.pair (.rep Tl r9.2.1) (.pair (I r9.2.2.1) (.eq (.int .u64 r9.2.2.2)))))]) (by kernel_rfl) cU (by kernel_rfl) ?_;obtain⟨F,j,h⟩:=aa h;refine fr 2 ?_;refine cQ rfl rfl rfl (bq rfl rfl Az (ap j)) ⟨rfl,rfl,trivial⟩ λs=>?_;refine fl fS ?_;refine oM λo12=>?_;refine fr 2 ?_;refine aP rfl rfl (aN rfl nF o12 rfl rfl) ⟨rfl,rfl,trivial⟩ ?_;refine aG (aK (tn (ae (mq ?_))));obtain⟨l,e,h⟩:=aa h;refine jb (eC rfl e) ?_;refine aq (nl ?_);exact jz (s,(r9.2.1,r9.2.2.1,r9.2.2.2,y7.2.2.2.1++[r9.1],l)) h [3,2,0,1]
  .refine xa ?_;exact jz (z8,(y7.2.2.2.1,y7.1,y7.2.1,y7.2.2.1)) h [1,2,3,0]
 .
  refine sr (fr 1 ?_);refine fr 2 ?_;refine eE (jm (off:=5) [] trivial rfl rfl) ?_;refine lo dp ?_;refine fr 1 ?_;refine aP rfl rfl (aN rfl dp trivial rfl rfl) ⟨rfl,rfl,trivial⟩ ?_;refine nt (aA (bC (iJ (a:=.agg (.pair (I r2.1.1) (.pair (I r2.1.2.1) (.pair (I r2.1.2.2.1) (.pair (I r2.1.2.2.2.1) (.pair (.rep (.slice (.slice Tl)) r2.1.2.2.2.2.1) (Rs aJ x4.1))))))) (a':=.rep am (r2.1.1,r2.1.2.1,r2.1.2.2.1,r2.1.2.2.2.1,r2.1.2.2.2.2.1,x4.1)) (kw (.agg (.pair .int (.pair .int (.pair .int (.pair .int (.pair .rep .rep)))))))) ?_));refine bC (SE.fin (Γ':=[(6,_)]) [2,0,1] ⟨rfl,trivial⟩ rfl) ?_;cases h;exact aQ () [.rep am (r2.1.1,r2.1.2.1,r2.1.2.2.1,r2.1.2.2.2.1,r2.1.2.2.2.2.1,x4.1)] 1 ⟨⟨_,_,_,_,_,rfl,(.tail _ (.head _)),dp,(qp),rfl⟩,trivial⟩ rfl
def ju(k:Nat)(a0:ab)(a1:aR)(a2:bQ):Option ((List ab)×bQ):=
 (iV k (a2.1,a2.2.1,a2.2.2) 4 4).bind λr3=>
 (g7 k r3.1).bind λr5=>
 (bR (be (length r5.2.2.2.2.2+length [a1]))).bind λ_=>
 some ([a0,r3.1,(r5.1,r5.2.1,r5.2.2.1,r5.2.2.2.1,r5.2.2.2.2.1,r5.2.2.2.2.2++[a1])],(r3.2.1,r3.2.2.1,r3.2.2.2))
theorem vT(k:Nat)(a0:ab)(a1:aR)(a2:bQ)(c:Nat)(r:(List ab)×bQ)(h:ju k a0 a1 a2=some r):
 cP Tryz.prog 13 [.rep am a0,.rep aJ a1,Pt c] [.obj c 74 (.agg (.pair (.rep Tl a2.1) (.pair (I a2.2.1) (.eq (.int .u64 a2.2.2)))))] (λ_:Unit=>(bu [Rs am r.1],[.obj c 74 (.agg (.pair (.rep Tl r.2.1) (.pair (I r.2.2.1) (.eq (.int .u64 r.2.2.2)))))])):=by
 unfold ju at h
 replace h:=aS h
 refine cP.of 23 Tryz.func13 rfl Tryz.ntmps13 rfl λS w0=>?_
 refine sr ?_
 refine bx λb1=>?_
 refine bx λb2=>?_
 refine cq ?_
 refine nt ?_
 refine sr ?_
 refine mq ?_
 obtain⟨r3,l,h⟩:=aa h
 have s:=tV k (a2.1,a2.2.1,a2.2.2) c 4 4 r3 l
 refine fr 2 ?_
 refine kc (av [.tmp 9,.const (.int .i64 (4)),.const (.int .i64 (4))] rfl rfl Vt rfl s) ?_
 refine aY rfl rfl rfl (bA rfl ve zM) trivial λb4=>?_
 refine aP rfl rfl (aN rfl dp rfl rfl rfl) ⟨rfl,rfl,trivial⟩ ?_
 refine nt ?_
 refine sr ?_
 refine lo dp ?_
 obtain⟨r5,j,h⟩:=aa h
 have n:=nR k r3.1 r5 j
 refine aY rfl rfl rfl (av [.tmp 11] rfl rfl Tt rfl n) ⟨rfl,trivial⟩ λv6=>?_
 refine aY rfl rfl rfl (bA rfl ve zM) trivial λb7=>?_
 refine aP rfl rfl (aN rfl dp trivial rfl rfl) ⟨rfl,rfl,trivial⟩ ?_
 refine nt ?_
 refine sr ?_
 refine fl fS ?_
 refine lo nF ?_
 refine fr 4 ?_
 refine lo nq ?_
 refine ja (aX (t:=aJ) [(.tmp 15,_)] [a1] rfl rfl Az (.cons rfl .rep .nil) rfl rfl) ?_
 obtain⟨u8,e,h⟩:=aa h
 refine fr 2 ?_
 refine cQ rfl rfl rfl (bq rfl rfl Az (ap e)) ⟨rfl,rfl,trivial⟩ λv9=>?_
 refine fl fS ?_
 refine oM λo10=>?_
 refine fr 2 ?_
 refine aP rfl rfl (aN rfl nF o10 rfl rfl) ⟨rfl,rfl,trivial⟩ ?_
 refine nt ?_
 refine sr ?_
 refine fr 5 ?_
 refine lo dp ?_
 refine fr 4 ?_
 refine lo dp ?_
 refine fr 2 ?_
 refine fr 3 ?_
 refine eE (jm (off:=5) [17] ⟨rfl,trivial⟩ rfl rfl) ?_
 refine lo dp ?_
 refine jc (aX (t:=am) [(.tmp 19,_),(.tmp 20,_),(.tmp 21,_)] [a0,r3.1,(r5.1,r5.2.1,r5.2.2.1,r5.2.2.2.1,r5.2.2.2.2.1,r5.2.2.2.2.2++[a1])] rfl rfl Uz (.cons rfl .rep (.cons rfl .rep (.cons trivial (.agg (.pair .int (.pair .int (.pair .int (.pair .int (.pair .rep .rep)))))) .nil))) rfl rfl) ?_
 refine aq ?_
 refine nt ?_
 refine aA ?_
 refine bC (SE.fin (Γ':=[(6,_)]) [4,0,1,2,3] ⟨rfl,trivial⟩ rfl) ?_
 cases h
 exact aQ () [_] 1 ⟨rfl,trivial⟩ rfl
def mr(k:Nat)(a0:ab):Option ((List Int)×Int):=
 (jt k a0 ([]:(List Int)) ([]:(List Int)) ([]:(List Int))).bind λr2=>
 gy r2.1 (if¬(r2.2.2=0) then(some (([]:(List Int)),r2.2.2)) else(none)) (λq3=>if¬(r2.2.2=0) then(some (([]:(List Int)),r2.2.2)) else((kO k r2.2.1).bind λr5=>
 (eI k r5).bind λr6=>
 some (r6,0)))
theorem xn(k:Nat)(a0:ab)(r:(List Int)×Int)(h:mr k a0=some r):
 cu (ew Tryz.prog) 31 [.rep am a0] [] (λ_:Unit=>(bu [.rep Tl r.1,I r.2],[])):=by
 unfold mr at h
 replace h:=aS h
 refine cu.of 19 Tryz.func31 rfl Tryz.ntmps31 rfl λS w0=>?_
 refine sr ?_
 refine bx λb1=>?_
 refine cq ?_
 refine cq ?_
 refine nt ?_
 refine sr ?_
 refine lo dp ?_
 obtain⟨r2,l,h⟩:=aa h
 have c:=lD k a0 ([]:(List Int)) ([]:(List Int)) ([]:(List Int)) r2 l
 rcases hr:r2.1 with _ |q3
 .
  rw [hr] at h c;replace h:=wn h;refine aO (Δ:=[]) (F:=_) (λ_ _ _=>ah rfl _) rfl rfl (bH (N:=[(.tmp 8,.rep am a0),(.const (.slice none 0 0),.eq (.slice none 0 0)),(.const (.slice none 0 0),.eq (.slice none 0 0)),(.const (.slice none 0 0),.eq (.slice none 0 0))]) (bj [.tmp 8,.const (.slice none 0 0),.const (.slice none 0 0),.const (.slice none 0 0)] rfl rfl BA rfl c) λ_ _ _ hn=>⟨hn.1,(aI (t:=Tl) (x:=([]:(List Int))) .nil rfl rfl hn.2.1),(aI (t:=Tl) (x:=([]:(List Int))) .nil rfl rfl hn.2.2.1),(aI (t:=Tl) (x:=([]:(List Int))) .nil rfl rfl hn.2.2.2.1),trivial⟩) ⟨rfl,rfl,rfl,rfl,trivial⟩ λ_=>?_;refine mq ?_;refine xr ?_;refine xr ?_;refine xr ?_;refine aq ?_;refine aq ?_;refine aq (nt (aj (sr ?_)));refine mq ?_;refine jb (dV rfl) ?_;refine nt (cn h (λh=>?_) (λh=>?_))
  .refine sr (mq ?_);refine cq ?_;refine aq (nt (rx ?_));refine bC (dL (t:=Tl) (x:=([]:(List Int))) 2 rfl .nil rfl rfl) ?_;cases h;exact rb
  .cases h
 .
  rw [hr] at h c;replace h:=wl h;refine aO (Δ:=[]) (F:=_) (λ_ _ _=>ah rfl _) rfl rfl (bH (N:=[(.tmp 8,.rep am a0),(.const (.slice none 0 0),.eq (.slice none 0 0)),(.const (.slice none 0 0),.eq (.slice none 0 0)),(.const (.slice none 0 0),.eq (.slice none 0 0))]) (bj [.tmp 8,.const (.slice none 0 0),.const (.slice none 0 0),.const (.slice none 0 0)] rfl rfl BA rfl c) λ_ _ _ hn=>⟨hn.1,(aI (t:=Tl) (x:=([]:(List Int))) .nil rfl rfl hn.2.1),(aI (t:=Tl) (x:=([]:(List Int))) .nil rfl rfl hn.2.2.1),(aI (t:=Tl) (x:=([]:(List Int))) .nil rfl rfl hn.2.2.2.1),trivial⟩) ⟨rfl,rfl,rfl,rfl,trivial⟩ λz4=>?_;refine mq ?_;refine xr ?_;refine xr ?_;refine xr ?_;refine aq ?_;refine aq ?_;refine aq (nt (aj (sr ?_)));refine mq ?_;refine jb (dV rfl) ?_;refine nt (cn h (λh=>?_) (λh=>?_))
  .refine sr (mq ?_);refine cq ?_;refine aq (nt (rx ?_));refine bC (dL (t:=Tl) (x:=([]:(List Int))) 2 rfl .nil rfl rfl) ?_;cases h;exact rb
  .refine sk (sr (mq ?_));obtain⟨r5,j,h⟩:=aa h;refine jb (av [.tmp 16,.func 72] rfl rfl SV rfl (vK k r2.2.1 r5 j)) ?_;obtain⟨r6,e,h⟩:=aa h;refine ja (av [.tmp 17] rfl rfl Js rfl (gP k r5 r6 e)) ?_;refine aq ?_;refine cq (nt (aA ?_));cases h;exact rb
def dn(k:Nat)(r7:(List ab)×bQ):Nat->Int->Option (Except Bool Unit)
 |0,_=>none
 |n+1,e=>
  if e < (r7.1.length:Int) then((aH r7.1 e).bind λE=>
  (g7 k E).bind λc=>
  (j8 k (c.1,c.2.1,c.2.2.1,c.2.2.2.1,c.2.2.2.2.1,c.2.2.2.2.2)).bind λr=>
  (aH r7.1 e).bind λD=>
  (me k D).bind λl=>
  (mr k (c.1,c.2.1,c.2.2.1,c.2.2.2.1,c.2.2.2.2.1,c.2.2.2.2.2)).bind λj=>
  (aH r7.1 e).bind λy=>
  (ma k y).bind λh=>
  ((if¬(r.2=l.2) then(some true) else(if¬(j.2=h.2) then(some true) else((eg k r.1 l.1).bind λJ=>
  if¬(J=true) then(some true) else((fD k j.1 h.1).bind λI=>
  if¬(I=true) then(some true) else((aH r7.1 e).bind λu=>
  (iT k (c.1,c.2.1,c.2.2.1,c.2.2.2.1,c.2.2.2.2.1,c.2.2.2.2.2) u).bind λF=>
  some (!F)))))):Option (Bool)).bind λx=>
  if x=true then(some (.error false)) else((ck (e+1)).bind λs=>
  dn k r7 n s)) else(some (.ok ()))
def jO(k:Nat)(a0:ab)(a1:aR)(a2:(List Int)):Option Bool:=
 (pK k a0).bind λr3=>
 if r3=true then((pL k).bind λr4=>
 some r4) else((nf k a2).bind λr5=>
 (ju k a0 a1 (r5.1,r5.2.1,r5.2.2)).bind λr7=>
 bE (α:=Unit) (dn k r7 k 0) (some) λ_=>
 (pL k).bind λc=>
 some c)
theorem sQ(k:Nat)(a0:ab)(a1:aR)(a2:(List Int))(r:Bool)(h:jO k a0 a1 a2=some r):
 cu (ew Tryz.prog) 6 [.rep am a0,.rep aJ a1,.rep Tl a2] [] (λ_:Unit=>(bu [.eq (.bool r)],[])):=by
 unfold jO at h
 replace h:=aS h
 refine cu.of 93 Tryz.func6 rfl Tryz.ntmps6 rfl λS w0=>?_
 refine sr ?_
 refine bx λb1=>?_
 refine bx λb2=>?_
 refine cq ?_
 refine nt ?_
 refine aj ?_
 refine sr ?_
 refine fr 1 ?_
 refine lo dp ?_
 obtain⟨r3,WL,h⟩:=aa h
 have WM:=Bj k a0 r3 WL
 refine ja (av [.tmp 18] rfl rfl VE rfl WM) ?_
 refine nt ?_
 refine cv h (λh=>?_) (λh=>?_)
 .
  refine sr ?_;obtain⟨r4,WJ,h⟩:=aa h;refine cp rfl (bj [] rfl rfl TB rfl (uv k r4 WJ)) trivial ?_;refine aq (nt (rx ?_));cases h;exact ra
 .
  refine sk (aj (qc ?_));refine hJ 0 rfl rfl rfl rfl (ao rfl dp (qp) rfl) ⟨rfl,trivial⟩ ?_;refine hJ 1 rfl rfl rfl rfl (ao rfl nq (qp) rfl) ⟨rfl,trivial⟩ ?_;refine bT rfl rfl rfl (aW rfl) ⟨rfl,trivial⟩ ?_;obtain⟨r5,WI,h⟩:=aa h;refine FC (Lx 74 (.agg (.pair (.rep Tl r5.1) (.pair (I r5.2.1) (.eq (.int .u64 r5.2.2)))))) (λ_=>rfl) rfl rfl rfl (av [.tmp 23] rfl rfl VD rfl (vV k a2 r5 WI)) ⟨rfl,trivial⟩ ?_;refine uk 4 [true,true,true,true] [7,25] [] [] rfl (by kernel_rfl) (by kernel_rfl) (by kernel_rfl) cU (λvs hv hB=>?_);obtain⟨w0,WQ,rfl,WG⟩:=aF hv;obtain⟨w1,WP,rfl,WE⟩:=aF WG;obtain⟨w2,WO,rfl,WC⟩:=aF WE;obtain⟨w3,WN,rfl,WB⟩:=aF WC;obtain rfl:=qq WB;obtain⟨b6,rfl⟩:=Ij hB.2.2.2.1;refine⟨[0,1,2],[.obj b1 25 (.rep am a0),.obj b2 27 (.rep aJ a1),.obj b6 74 (.agg (.pair (.rep Tl r5.1) (.pair (I r5.2.1) (.eq (.int .u64 r5.2.2)))))],by kernel_rfl,by decide,?_⟩;obtain⟨r7,WH,h⟩:=aa h;refine pZ 2 rfl ?_;refine ug rfl rfl rfl rfl (av [.tmp 21,.tmp 22,.tmp 24] rfl rfl VC rfl (vT k a0 a1 (r5.1,r5.2.1,r5.2.2) b6 r7 WH)) ⟨rfl,rfl,rfl,trivial⟩ (by kernel_rfl) ?_;refine QH rfl rfl rfl rfl (pC rfl) ⟨rfl,trivial⟩ (by kernel_rfl) ?_;refine wH ?_;refine bC (SE.fin (Γ':=[(7,Rs am r7.1)]) (Δ':=[.obj b6 74 (.agg (.pair (.rep Tl r7.2.1) (.pair (I r7.2.2.1) (.eq (.int .u64 r7.2.2.2))))),.obj b1 25 (.rep am a0),.obj b2 27 (.rep aJ a1)]) [0,1,2] ⟨rfl,trivial⟩ rfl) ?_;refine tn (cR (Z:=Unit) (α:=Unit) (λz9 x8=>[]) (λz9 x8=>[]) (λe=>e=r) h (λe h=>Option.some.inj h) (λK hR h=>?_) (λz9 x8 h=>?_))
  .refine sr (cq (nt (ai ?_)));refine aD (λu j=>[(7,Rs am r7.1),(8,I j)]) (λu j=>[]) (dn k r7) k () 0 (λ_=>rfl) h (SE.fin [] ⟨rfl,rfl,trivial⟩ rfl) (λn u j h=>?_);unfold dn at h;refine aj (sr ?_);iterate 2 refine mq ?_
   refine ol TS ?_;refine jb (bp rfl) ?_;refine nt (ci h (λh=>?_) (λh=>?_))
   .refine sk (aj (ai (sr ?_)));iterate 2 refine mq ?_
    obtain⟨Wx,Y,h⟩:=aa h;refine jb (aC (t:=am) rfl TS dp Y) ?_;refine ja (an (t:=am) rfl dp rfl) ?_;obtain⟨c,Ws,h⟩:=aa h;refine aY rfl rfl rfl (av [.tmp 35] rfl rfl Tt rfl (nR k Wx c Ws)) ⟨rfl,trivial⟩ λWR=>?_;refine aY rfl rfl rfl (bA rfl ve zM) trivial λWS=>?_;refine aP rfl rfl (aN rfl dp trivial rfl rfl) ⟨rfl,rfl,trivial⟩ ?_;refine nt (sr (fr 1 ?_));refine eE (jm (off:=5) [] trivial rfl rfl) ?_;refine lo dp ?_;obtain⟨M,Wq,h⟩:=aa h;refine ja (bH (N:=[(.tmp 38,.agg (.pair (I c.1) (.pair (I c.2.1) (.pair (I c.2.2.1) (.pair (I c.2.2.2.1) (.pair (.rep (.slice (.slice Tl)) c.2.2.2.2.1) (Rs aJ c.2.2.2.2.2)))))))]) (bj [.tmp 38] rfl rfl Ta rfl (qQ k (c.1,c.2.1,c.2.2.1,c.2.2.2.1,c.2.2.2.2.1,c.2.2.2.2.2) M Wq)) λ_ _ _ hn=>⟨(aI (t:=am) (x:=(c.1,c.2.1,c.2.2.1,c.2.2.2.1,c.2.2.2.2.1,c.2.2.2.2.2)) (.agg (.pair .int (.pair .int (.pair .int (.pair .int (.pair .rep .rep)))))) trivial rfl hn.1),trivial⟩) ?_;refine mq ?_;refine xr ?_;refine xr ?_;refine aq ?_;refine aq (nt (sr ?_));iterate 2 refine mq ?_
    obtain⟨Wv,X,h⟩:=aa h;refine jb (aC (t:=am) rfl TS dp X) ?_;refine ja (an (t:=am) rfl dp rfl) ?_;obtain⟨J,Wp,h⟩:=aa h;refine ja (av [.tmp 46] rfl rfl Vw rfl (xc k Wv J Wp)) ?_;refine mq ?_;refine xr ?_;refine xr ?_;refine aq ?_;refine aq (nt (sr ?_));refine lo dp ?_;obtain⟨F,Wn,h⟩:=aa h;refine ja (bH (N:=[(.tmp 51,.agg (.pair (I c.1) (.pair (I c.2.1) (.pair (I c.2.2.1) (.pair (I c.2.2.2.1) (.pair (.rep (.slice (.slice Tl)) c.2.2.2.2.1) (Rs aJ c.2.2.2.2.2)))))))]) (bj [.tmp 51] rfl rfl Vv rfl (xn k (c.1,c.2.1,c.2.2.1,c.2.2.2.1,c.2.2.2.2.1,c.2.2.2.2.2) F Wn)) λ_ _ _ hn=>⟨(aI (t:=am) (x:=(c.1,c.2.1,c.2.2.1,c.2.2.2.1,c.2.2.2.2.1,c.2.2.2.2.2)) (.agg (.pair .int (.pair .int (.pair .int (.pair .int (.pair .rep .rep)))))) trivial rfl hn.1),trivial⟩) ?_;refine mq ?_;refine xr ?_;refine xr ?_;refine aq ?_;refine aq (nt (sr ?_));iterate 2 refine mq ?_
    obtain⟨Wu,U,h⟩:=aa h;refine jb (aC (t:=am) rfl TS dp U) ?_;refine ja (an (t:=am) rfl dp rfl) ?_;obtain⟨E,zz,h⟩:=aa h;refine ja (av [.tmp 59] rfl rfl Vu rfl (xb k Wu E zz)) ?_;refine mq ?_;refine xr ?_;refine xr ?_;refine aq ?_;refine aq (nt ?_);refine aE (Z:=Unit) (α:=Bool) (λs l=>[(7,Rs am r7.1),(8,I j),(91,.eq (.bool l))]) (λs l=>[]) h (λK h=>?_) (λs l h=>?_)
    .refine bL ?_;refine dm ?_;refine dm ?_;refine db (dV rfl) ?_;refine lK rfl rfl rfl (aW rfl) ⟨rfl,trivial⟩ (λhb=>?_) (λhb=>?_)
     .replace h:=eh (Oz hb) h;iterate 3 refine dg ?_
      refine db (kJ rfl) ?_;refine dm ?_;iterate 4 refine dg ?_
      refine db (kJ rfl) ?_;refine dm ?_;iterate 4 refine dg ?_
      refine db (kJ rfl) ?_;refine dm ?_;iterate 5 refine dg ?_
      refine df cU ?_;iterate 2 refine gn ?_
      refine pt (nl ?_);exact jz ((),true) h []
     .replace h:=cH (A4 hb) h;refine bo rfl rfl rfl rfl rfl (aW rfl) ⟨rfl,rfl,trivial⟩ ?_;refine bo rfl rfl rfl rfl rfl (aW rfl) ⟨rfl,rfl,trivial⟩ ?_;refine bo rfl rfl rfl rfl rfl (dV rfl) ⟨rfl,rfl,rfl,trivial⟩ ?_;refine db (pz rfl) ?_;refine lK rfl rfl rfl (aW rfl) ⟨rfl,trivial⟩ (λhb=>?_) (λhb=>?_)
      .replace h:=eh (Oz hb) h;iterate 4 refine dg ?_
       refine db (kJ rfl) ?_;refine dm ?_;iterate 4 refine dg ?_
       refine db (kJ rfl) ?_;refine dm ?_;iterate 5 refine dg ?_
       refine df cU ?_;iterate 2 refine gn ?_
       refine pt (nl ?_);exact jz ((),true) h []
      .replace h:=cH (A4 hb) h;refine bo rfl rfl rfl rfl rfl (aW rfl) ⟨rfl,rfl,trivial⟩ ?_;refine bo rfl rfl rfl rfl rfl (aW rfl) ⟨rfl,rfl,trivial⟩ ?_;obtain⟨WA,qt,h⟩:=aa h;refine bo rfl rfl rfl rfl rfl (av [.tmp 72,.tmp 73] rfl rfl M7 rfl (iH k M.1 J.1 WA qt)) ⟨rfl,rfl,rfl,trivial⟩ ?_;refine bo rfl rfl rfl rfl rfl (eS rfl) ⟨rfl,rfl,trivial⟩ ?_;refine db (pz rfl) ?_;refine lK rfl rfl rfl (aW rfl) ⟨rfl,trivial⟩ (λhb=>?_) (λhb=>?_)
       .replace h:=eh (sG hb) h;iterate 4 refine dg ?_
        refine db (kJ rfl) ?_;refine dm ?_;iterate 5 refine dg ?_
        refine df cU ?_;iterate 2 refine gn ?_
        refine pt (nl ?_);exact jz ((),true) h []
       .replace h:=cH (mX hb) h;refine bo rfl rfl rfl rfl rfl (aW rfl) ⟨rfl,rfl,trivial⟩ ?_;refine bo rfl rfl rfl rfl rfl (aW rfl) ⟨rfl,rfl,trivial⟩ ?_;obtain⟨Wz,mw,h⟩:=aa h;refine bo rfl rfl rfl rfl rfl (av [.tmp 78,.tmp 79] rfl rfl M6 rfl (ji k F.1 E.1 Wz mw)) ⟨rfl,rfl,rfl,trivial⟩ ?_;refine bo rfl rfl rfl rfl rfl (eS rfl) ⟨rfl,rfl,trivial⟩ ?_;refine db (pz rfl) ?_;refine lK rfl rfl rfl (aW rfl) ⟨rfl,trivial⟩ (λhb=>?_) (λhb=>?_)
        .replace h:=eh (sG hb) h;iterate 5 refine dg ?_
         refine df cU ?_;iterate 2 refine gn ?_
         refine pt (nl ?_);exact jz ((),true) h []
        .replace h:=cH (mX hb) h;refine ig 0 rfl rfl rfl rfl rfl rfl (ao rfl dp (qp) rfl) ⟨rfl,rfl,trivial⟩ ?_;refine bo rfl rfl rfl rfl rfl (aW rfl) ⟨rfl,rfl,trivial⟩ ?_;refine bo rfl rfl rfl rfl rfl (aW rfl) ⟨rfl,rfl,trivial⟩ ?_;obtain⟨y,Q,h⟩:=aa h;refine bo rfl rfl rfl rfl rfl (aC (t:=am) rfl TS dp Q) ⟨rfl,rfl,rfl,trivial⟩ ?_;refine bo rfl rfl rfl rfl rfl (an (t:=am) rfl dp rfl) ⟨rfl,rfl,trivial⟩ ?_;refine df cU ?_;obtain⟨D,mc,h⟩:=aa h;refine gb (bH (N:=[(.tmp 84,.agg (.pair (I c.1) (.pair (I c.2.1) (.pair (I c.2.2.1) (.pair (I c.2.2.2.1) (.pair (.rep (.slice (.slice Tl)) c.2.2.2.2.1) (Rs aJ c.2.2.2.2.2))))))),(.tmp 88,.rep am y)]) (av [.tmp 84,.tmp 88] rfl rfl Vy rfl (tR k (c.1,c.2.1,c.2.2.1,c.2.2.2.1,c.2.2.2.2.1,c.2.2.2.2.2) y D mc)) λ_ _ _ hn=>⟨(aI (t:=am) (x:=(c.1,c.2.1,c.2.2.1,c.2.2.2.1,c.2.2.2.2.1,c.2.2.2.2.2)) (.agg (.pair .int (.pair .int (.pair .int (.pair .int (.pair .rep .rep)))))) trivial rfl hn.1),hn.2.1,trivial⟩) ?_;refine ga (eS rfl) ?_;refine pf (nl ?_);exact jz ((), !D) h []
    .refine cv h (λh=>?_) (λh=>?_)
     .refine sr (cq (nt (aA (br (bb (bg ?_))))));obtain rfl:=hR _ h;exact ra
     .refine aZ (aK (tn (ae (mq ?_))));obtain⟨Wt,O,h⟩:=aa h;refine jb (bi rfl O) ?_;refine aq (nl ?_);exact jz ((),Wt) h []
   .refine xa ?_;exact jz ((),()) h []
  .refine sr ?_;obtain⟨Wy,gw,h⟩:=aa h;refine cp rfl (bj [] rfl rfl TB rfl (uv k Wy gw)) trivial ?_;refine aq (nt (aA ?_));cases h;exact ra
