import Derived.Test.YtcpbmhgakdeceaaGreatVRB11
open Nat
open List hiding mem_of_getElem?
open Array hiding mem_of_getElem? mk
set_option linter.unusedSimpArgs false
set_option linter.unusedVariables false
set_option maxRecDepth 4000
set_option maxHeartbeats 4000000
namespace Go.Proofs.YtcpbmhgakdeceaaGreat
open K Go Go.Proofs
def fE(k:Nat)(a0:ab)(a1:(List Int)):Nat->(Int×Int)->Option (Except ((Option ab)×Int×Int) Int)
 |0,_=>none
 |n+1,y5=>
  if y5.2 < (a1.length:Int) then((aK a1 y5.2).bind λx7=>
  (ck (a0.1 - 1)).bind λx8=>
  (ec k x7 0 x8).bind λr9=>
  if¬(r9=true) then(some (.error (none,0,3))) else(((if 0 < y5.2 then((ck (y5.2 - 1)).bind λh=>
  (aK a1 h).bind λe=>
  some (decide (x7≤e))) else(some false)):Option (Bool)).bind λj=>
  if j=true then(some (.error (none,0,5))) else((fC k y5.1 x7).bind λl=>
  (ck (y5.2+1)).bind λc=>
  fE k a0 a1 n (l,c)))) else(some (.ok y5.1))
def dV(k:Nat)(a0:ab)(h:Int)(e:(List Int)):Nat->Int->Option (Except ((Option ab)×Int×Int) Unit)
 |0,_=>none
 |n+1,c=>
  if c < (e.length:Int) then((aK e c).bind λu=>
  (ck (a0.1 - 1)).bind λs=>
  (ck ((a0.2.2.2.2.1.length:Int) - 1)).bind λr=>
  (aK [s,r,(a0.2.2.2.2.1.length:Int)] h).bind λl=>
  (ec k u 0 l).bind λx=>
  if¬(x=true) then(some (.error (none,0,3))) else((ck (c+1)).bind λj=>
  dV k a0 h e n j)) else(some (.ok ()))
def c7(k:Nat)(a0:ab)(a2:(List Int))(a3:(List Int))(a4:(List Int)):Nat->Int->Option (Except ((Option ab)×Int×Int) Unit)
 |0,_=>none
 |n+1,c=>
  if c < ([a2,a3,a4].length:Int) then(bE (α:=Unit) ((aK [a2,a3,a4] c).bind λj=>
  dV k a0 c j k 0) (λe=>some (.error e)) λ_=>
  (ck (c+1)).bind λh=>
  c7 k a0 a2 a3 a4 n h) else(some (.ok ()))
def je(k:Nat)(a0:ab)(a1:(List Int))(a2:(List Int))(a3:(List Int))(a4:(List Int)):Option ((Option ab)×Int×Int):=
 (oD k a0).bind λr2=>
 if¬(r2=0) then(some (none,0,r2)) else(bE (α:=Int) (fE k a0 a1 k (0,0)) (some) λx3=>
 bE (α:=Unit) (c7 k a0 a2 a3 a4 k 0) (some) λ_=>
 (gK k a0).bind λe=>
 fS e (none) (λc=>(eW k c).bind λh=>
 some (some c,x3,0)))
theorem jE(k:Nat)(a0:ab)(a1:(List Int))(a2:(List Int))(a3:(List Int))(a4:(List Int))(r:(Option ab)×Int×Int)(h:je k a0 a1 a2 a3 a4=some r):
 bT (d4 Tryz.prog) 28 [.rep ah a0,.rep Tl a1,.rep Tl a2,.rep Tl a3,.rep Tl a4] [] (λz:Nat×Nat=>(bn [ND r.1 z.1,.eq (.int .u8 r.2.1),I r.2.2],NC r.1 λq=>sW q z.1 z.2 k)):=by
 unfold je at h
 replace h:=aY h
 refine bT.of 95 Tryz.func28 rfl Tryz.ntmps28 rfl λS w0=>?_
 refine sr ?_
 refine bx λb1=>?_
 refine au ?_
 refine lo bB ?_
 obtain⟨r2,Yv,h⟩:=aa h
 have Yw:=Ab k a0 r2 Yv
 refine ja (ax [.tmp 22] rfl rfl W4 rfl Yw) ?_
 refine au ?_
 refine jb (dG rfl) ?_
 refine nt ?_
 refine cn h (λh=>?_) (λh=>?_)
 .
  refine au ?_;cases h;exact aN (0,0) [.eq (.pointer none),_,_] 0 ⟨rfl,rfl,rfl,trivial⟩ rfl
 .
  refine sk (sr (cq (nt ?_)));refine cF (Z:=Unit) (α:=Int) (λz4 x3=>[(2,.rep Tl a2),(3,.rep Tl a3),(4,.rep Tl a4),(5,Pt b1),(14,.eq (.int .u8 x3))]) (λz4 x3=>[.obj b1 25 (.rep ah a0)]) (λe=>e=r) h (λe h=>Option.some.inj h) (λK hR h=>?_) (λz4 x3 h=>?_)
  .refine au ?_;refine ol gX ?_;refine fM rfl ?_;refine nt (ai (aF (λz6 y5=>[(1,.rep Tl a1),(2,.rep Tl a2),(3,.rep Tl a3),(4,.rep Tl a4),(5,Pt b1),(14,.eq (.int .u8 y5.1)),(27,.rep Tl a1),(28,I (a1.length:Int)),(29,I y5.2)]) (λz6 y5=>[.obj b1 25 (.rep ah a0)]) (fE k a0 a1) k () (0,0) (λ_=>rfl) h (SE.fin [0] ⟨rfl,rfl,rfl,rfl,rfl,rfl,rfl,rfl,rfl,trivial⟩ rfl) (λn z6 y5 h=>?_)));unfold fE at h;refine sr (jb (bj rfl) ?_);refine au ?_;refine ci h (λh=>?_) (λh=>?_)
   .refine au ?_;refine ai (au ?_);obtain⟨x7,Yt,h⟩:=aa h;refine jb (aG (t:=Ti) rfl gX bP Yt) ?_;refine ja (ao (t:=Ti) rfl bP rfl) ?_;refine au ?_;refine fl ff ?_;refine lo bP ?_;obtain⟨x8,Ys,h⟩:=aa h;refine jb (eC rfl Ys) ?_;obtain⟨r9,Yu,h⟩:=aa h;refine jc (ax [.tmp 34,.const (.int .i64 (0)),.tmp 37] rfl rfl As rfl (er k x7 0 x8 r9 Yu)) ?_;refine ja (eQ rfl) ?_;refine nt (cw h (λh=>?_) (λh=>?_))
    .refine au ?_;obtain rfl:=hR _ h;exact aN (0,0) [.eq (.pointer none),_,_] 0 ⟨rfl,rfl,rfl,trivial⟩ rfl
    .refine sk (bC (aJ (Z:=Unit) (α:=Bool) (λO y=>[(1,.rep Tl a1),(2,.rep Tl a2),(3,.rep Tl a3),(4,.rep Tl a4),(5,Pt b1),(14,.eq (.int .u8 y5.1)),(16,I x7),(27,.rep Tl a1),(28,I (a1.length:Int)),(29,I y5.2),(50,.eq (.bool y))]) (λO y=>[.obj b1 25 (.rep ah a0)]) h (λK h=>?_) (λO y h=>?_)))
     .refine ae (mq ?_);refine jb (iq rfl) ?_;refine mq ?_;refine bV (s:=42) rfl (λhb=>?_) (λhb=>?_)
      .replace h:=dY (vz hb) h;refine au ?_;obtain⟨Yz,Ye,h⟩:=aa h;refine gb (eC rfl Ye) ?_;obtain⟨Yo,Yd,h⟩:=aa h;refine gb (aG (t:=Ti) rfl gX bP Yd) ?_;refine ga (ao (t:=Ti) rfl bP rfl) ?_;refine gb (yJ rfl) ?_;refine au ?_;exact jz ((),decide (x7≤Yo)) h [0]
      .replace h:=cz (vA hb) h;refine au ?_;exact jz ((),false) h [0]
     .refine cv h (λh=>?_) (λh=>?_)
      .refine au ?_;obtain rfl:=hR _ h;exact aN (0,0) [.eq (.pointer none),_,_] 0 ⟨rfl,rfl,rfl,trivial⟩ rfl
      .refine sk (ae (au ?_));obtain⟨Y,Yi,h⟩:=aa h;refine jb (ax [.tmp 51,.tmp 52] rfl rfl OH rfl (jo k y5.1 x7 Y Yi)) ?_;refine au ?_;refine ae ?_;obtain⟨Yn,zM,h⟩:=aa h;refine jb (be rfl zM) ?_;refine au ?_;exact jz ((),(Y,Yn)) h [0]
   .refine au ?_;exact jz ((),y5.1) h [0]
  .refine cF (Z:=Unit) (α:=Unit) (λM U=>[(5,Pt b1),(14,.eq (.int .u8 x3))]) (λM U=>[.obj b1 25 (.rep ah a0)]) (λe=>e=r) h (λe h=>Option.some.inj h) (λK hR h=>?_) (λM U h=>?_)
   .refine au ?_;refine jc (aX (t:=Tl) [(.tmp 55,_),(.tmp 56,_),(.tmp 57,_)] [a2,a3,a4] rfl rfl kU (.cons rfl .rep (.cons rfl .rep (.cons rfl .rep .nil))) rfl rfl) ?_;refine ol nR ?_;refine fM rfl ?_;refine nt (ai (aF (λJ c=>[(5,Pt b1),(14,.eq (.int .u8 x3)),(58,.rep (.slice Tl) [a2,a3,a4]),(59,I ([a2,a3,a4].length:Int)),(60,I c)]) (λJ c=>[.obj b1 25 (.rep ah a0)]) (c7 k a0 a2 a3 a4) k () 0 (λ_=>rfl) h (SE.fin [0] ⟨rfl,rfl,rfl,rfl,rfl,trivial⟩ rfl) (λn J c h=>?_)));unfold c7 at h;refine sr (jb (bj rfl) ?_);refine au ?_;refine ci h (λh=>?_) (λh=>?_)
    .refine sk (cF (Z:=Unit) (α:=Unit) (λE Q=>[(5,Pt b1),(14,.eq (.int .u8 x3)),(58,.rep (.slice Tl) [a2,a3,a4]),(59,I ([a2,a3,a4].length:Int)),(60,I c)]) (λE Q=>[.obj b1 25 (.rep ah a0)]) (λe=>e=r) h (λe h=>hR e h) (λK hR h=>?_) (λE Q h=>?_))
     .refine ai (au ?_);obtain⟨x,zz,h⟩:=aa h;refine jb (aG (t:=Tl) rfl nR eB zz) ?_;refine ja (ao (t:=Tl) rfl eB rfl) ?_;refine au ?_;refine ol gX ?_;refine fM rfl ?_;refine nt (ai (aF (λD u=>[(5,Pt b1),(14,.eq (.int .u8 x3)),(17,I c),(58,.rep (.slice Tl) [a2,a3,a4]),(59,I ([a2,a3,a4].length:Int)),(60,I c),(65,.rep Tl x),(66,I (x.length:Int)),(67,I u)]) (λD u=>[.obj b1 25 (.rep ah a0)]) (dV k a0 c x) k () 0 (λ_=>rfl) h (SE.fin [0] ⟨rfl,rfl,rfl,rfl,rfl,rfl,rfl,rfl,rfl,trivial⟩ rfl) (λn D u h=>?_)));unfold dV at h;refine sr (jb (bj rfl) ?_);refine au ?_;refine ci h (λh=>?_) (λh=>?_)
      .refine au ?_;refine ai (sr ?_);obtain⟨Ym,qt,h⟩:=aa h;refine jb (aG (t:=Ti) rfl gX bP qt) ?_;refine ja (ao (t:=Ti) rfl bP rfl) ?_;refine au ?_;refine fl ff ?_;refine lo bP ?_;obtain⟨Yy,pq,h⟩:=aa h;refine jb (eC rfl pq) ?_;refine fl co ?_;refine lo fp ?_;refine ol pJ ?_;obtain⟨Yx,mw,h⟩:=aa h;refine jb (eC rfl mw) ?_;refine fl co ?_;refine lo fp ?_;refine ol pJ ?_;refine jc (Hh rfl VA bP TM) ?_;refine mq ?_;obtain⟨Yl,mt,h⟩:=aa h;refine jb (ql (t:=Ti) rfl VA bP rfl rfl (λ_=>rfl) mt) ?_;obtain⟨Yq,Yh,h⟩:=aa h;refine jc (ax [.tmp 71,.const (.int .i64 (0)),.tmp 84] rfl rfl As rfl (er k Ym 0 Yl Yq Yh)) ?_;refine ja (eQ rfl) ?_;refine nt (cw h (λh=>?_) (λh=>?_))
       .refine au ?_;obtain rfl:=hR _ h;exact aN (0,0) [.eq (.pointer none),_,_] 0 ⟨rfl,rfl,rfl,trivial⟩ rfl
       .refine au ?_;refine ae ?_;obtain⟨Yk,mc,h⟩:=aa h;refine jb (be rfl mc) ?_;refine au ?_;exact jz ((),Yk) h [0]
      .refine au ?_;exact jz ((),()) h [0]
     .refine ae ?_;obtain⟨Yj,gw,h⟩:=aa h;refine jb (be rfl gw) ?_;refine au ?_;exact jz ((),Yj) h [0]
    .refine au ?_;exact jz ((),()) h [0]
   .refine sr (lo bB ?_);obtain⟨X,Yg,h⟩:=aa h;have j:=lE k a0 X Yg;rcases hr:X with _ |Yr
    .rw [hr] at h j;replace h:=uL h;refine aR (Δ:=[]) (F:=_) (λ_ _ _=>aj rfl _) rfl rfl (ax [.tmp 89] rfl rfl Hz rfl j) ⟨rfl,trivial⟩ λ_=>?_;cases h
    .rw [hr] at h j;replace h:=uK h;refine aR (Δ:=[]) (F:=_) (λ_ _ _=>aj rfl _) rfl rfl (ax [.tmp 89] rfl rfl Hz rfl j) ⟨rfl,trivial⟩ λl=>?_;refine aq (nt (sr ?_));refine mq ?_;obtain⟨Yp,Yf,h⟩:=aa h;refine fr 1 ?_;refine fr 1 ?_;refine aR (Δ:=[_,_]) (F:=_) (λ_ _ _=>aj rfl _) rfl rfl (bb [.tmp 91] rfl rfl W3 rfl (sj k Yr l.1 l.2 Yp Yf)) ⟨rfl,trivial⟩ λ_=>?_;refine au ?_;cases h;exact aN (l.1,l.2) [.eq (.pointer (some ⟨l.1,0,none⟩)),_,_] 2 ⟨rfl,rfl,rfl,trivial⟩ rfl
def kQ(k:Nat)(a0:ab)(r5:(List (List Int)))(x9:Int):Nat->((List (List Int))×Int)->Option (List (List Int))
 |0,_=>none
 |n+1,c=>
  if c.2 < x9 then((aK r5 c.2).bind λj=>
  (bO (0≤a0.1/\a0.1≤5)).bind λ_=>
  (eO k (List.take (Int.toNat a0.1) j)).bind λe=>
  (bO (aZ (length c.1+length [e]))).bind λ_=>
  (ck (c.2+1)).bind λh=>
  kQ k a0 r5 x9 n (c.1++[e],h)) else(some c.1)
def sC(k:Nat)(a0:ab)(a1:(List Int)):Option ((List (List Int))×Int):=
 (je k a0 a1 ([]:(List Int)) ([]:(List Int)) ([]:(List Int))).bind λr2=>
 fS r2.1 (if¬(r2.2.2=0) then(some (([]:(List (List Int))),r2.2.2)) else(none)) (λq3=>if¬(r2.2.2=0) then(some (([]:(List (List Int))),r2.2.2)) else((nu k q3 r2.2.1).bind λr5=>
 (((ck ((a0.2.2.2.2.1.length:Int)+1)).bind λx9=>
 kQ k a0 r5 x9 k (([]:(List (List Int))),0)):Option ((List (List Int)))).bind λx7=>
 some (x7,0)))
theorem yf(k:Nat)(a0:ab)(a1:(List Int))(r:(List (List Int))×Int)(h:sC k a0 a1=some r):
 bT (d4 Tryz.prog) 16 [.rep ah a0,.rep Tl a1] [] (λ_:Unit=>(bn [.rep (.slice Tl) r.1,I r.2],[])):=by
 unfold sC at h
 replace h:=aY h
 refine bT.of 43 Tryz.func16 rfl Tryz.ntmps16 rfl λS w0=>?_
 refine sr ?_
 refine bx λb1=>?_
 refine au ?_
 refine lo bB ?_
 refine mq ?_
 obtain⟨r2,X,h⟩:=aa h
 have j:=jE k a0 a1 ([]:(List Int)) ([]:(List Int)) ([]:(List Int)) r2 X
 rcases hr:r2.1 with _ |q3
 .
  rw [hr] at h j;replace h:=uL h;refine aR (Δ:=[]) (F:=_) (λ_ _ _=>aj rfl _) rfl rfl (bv (N:=[(.tmp 13,.rep ah a0),(.tmp 14,.rep Tl a1),(.const (.slice none 0 0),.eq (.slice none 0 0)),(.const (.slice none 0 0),.eq (.slice none 0 0)),(.const (.slice none 0 0),.eq (.slice none 0 0))]) (bb [.tmp 13,.tmp 14,.const (.slice none 0 0),.const (.slice none 0 0),.const (.slice none 0 0)] rfl rfl vv rfl j) λ_ _ _ hn=>⟨hn.1,hn.2.1,(aE (t:=Tl) (x:=([]:(List Int))) .nil rfl rfl hn.2.2.1),(aE (t:=Tl) (x:=([]:(List Int))) .nil rfl rfl hn.2.2.2.1),(aE (t:=Tl) (x:=([]:(List Int))) .nil rfl rfl hn.2.2.2.2.1),trivial⟩) ⟨rfl,rfl,rfl,rfl,rfl,trivial⟩ λ_=>?_;refine au ?_;refine jb (dG rfl) ?_;refine nt (cn h (λh=>?_) (λh=>?_))
  .refine sr (mq ?_);refine cq ?_;refine aq (nt (rx ?_));refine bf (eN (t:=(.slice Tl)) (x:=([]:(List (List Int)))) 4 rfl .nil rfl rfl) ?_;cases h;exact rb
  .cases h
 .
  rw [hr] at h j;replace h:=uK h;refine aR (Δ:=[]) (F:=_) (λ_ _ _=>aj rfl _) rfl rfl (bv (N:=[(.tmp 13,.rep ah a0),(.tmp 14,.rep Tl a1),(.const (.slice none 0 0),.eq (.slice none 0 0)),(.const (.slice none 0 0),.eq (.slice none 0 0)),(.const (.slice none 0 0),.eq (.slice none 0 0))]) (bb [.tmp 13,.tmp 14,.const (.slice none 0 0),.const (.slice none 0 0),.const (.slice none 0 0)] rfl rfl vv rfl j) λ_ _ _ hn=>⟨hn.1,hn.2.1,(aE (t:=Tl) (x:=([]:(List Int))) .nil rfl rfl hn.2.2.1),(aE (t:=Tl) (x:=([]:(List Int))) .nil rfl rfl hn.2.2.2.1),(aE (t:=Tl) (x:=([]:(List Int))) .nil rfl rfl hn.2.2.2.2.1),trivial⟩) ⟨rfl,rfl,rfl,rfl,rfl,trivial⟩ λz4=>?_;refine au ?_;refine jb (dG rfl) ?_;refine nt (cn h (λh=>?_) (λh=>?_))
  .refine sr (mq ?_);refine cq ?_;refine aq (nt (rx ?_));refine bf (eN (t:=(.slice Tl)) (x:=([]:(List (List Int)))) 4 rfl .nil rfl rfl) ?_;cases h;exact rb
  .refine sk (sr (cq (nt (sr ?_))));iterate 2 refine mq ?_
   obtain⟨r5,U,h⟩:=aa h;refine fr 1 ?_;refine fr 1 ?_;refine aR (Δ:=[_,_]) (F:=_) (λ_ _ _=>aj rfl _) rfl rfl (bb [.tmp 22,.tmp 23] rfl rfl Hy rfl (ri k q3 z4.1 z4.2 r2.2.1 r5 U)) ⟨rfl,rfl,trivial⟩ λ_=>?_;refine aQ rfl rfl rfl (aV rfl Ig Lh) trivial λb6=>?_;refine aI rfl rfl (aD rfl IP rfl rfl rfl) ⟨rfl,rfl,trivial⟩ ?_;refine dQ (kJ (t:=(.arr 7 Tr)) (x:=r5) [10] .rep ⟨rfl,trivial⟩) ?_;refine nt (aJ (Z:=Value) (α:=(List (List Int))) (λz8 x7=>[(9,.eq z8)]) (λz8 x7=>[.sl z8 28 Tl x7,.inv z4.2 (bR k q3)]) h (λK h=>?_) (λz8 x7 h=>?_))
   .refine sr (fl co ?_);refine fr 2 ?_;refine lo fp ?_;refine ol pJ ?_;obtain⟨x9,Q,h⟩:=aa h;refine jb (be rfl Q) ?_;refine fM rfl ?_;refine nt (ai (ia (SE.nil 28 Tl) ?_));refine aF (λe c=>[(2,Pt b1),(9,.eq e),(10,.at (.arr 7 Tr) r5),(28,I x9),(29,I c.2)]) (λe c=>[.obj b1 25 (.rep ah a0),.sl e 28 Tl c.1,.inv z4.2 (bR k q3)]) (kQ k a0 r5 x9) k (.slice none 0 0) (([]:(List (List Int))),0) (λ_=>rfl) h (SE.fin [1,0,3] ⟨rfl,rfl,rfl,rfl,rfl,trivial⟩ rfl) (λn e c h=>?_);unfold kQ at h;refine sr (jb (bj rfl) ?_);refine au ?_;refine ci h (λh=>?_) (λh=>?_)
    .refine au ?_;refine ai (au ?_);refine bD ?_;refine dm ?_;refine dm ?_;obtain⟨M,y,h⟩:=aa h;refine db (cK (t:=Tr) rfl ME ko y) ?_;refine da (av rfl ff) ?_;refine ea 0 (ak rfl bP iV rfl) ?_;obtain⟨gw,l,h⟩:=aa h;refine db (xR (t:=Ti) rfl E2 bP (ap l).1 (ap l).2) ?_;obtain⟨s,E,h⟩:=aa h;refine da (vU (ax [.tmp 37] rfl rfl Va rfl (od k (List.take (Int.toNat a0.1) M) s E))) ?_;refine da (aX (t:=Tl) [(.tmp 38,_)] [s] rfl rfl kU (.cons rfl .rep .nil) rfl rfl) ?_;refine df cy ?_;obtain⟨Y,D,h⟩:=aa h;refine fr 1 ?_;refine cI rfl rfl rfl (bg rfl rfl kU (ap D)) ⟨rfl,rfl,trivial⟩ λO=>?_;refine au ?_;refine ae ?_;obtain⟨J,u,h⟩:=aa h;refine jb (be rfl u) ?_;refine au ?_;exact jz (O,(c.1++[s],J)) h [1,0,2]
    .refine au ?_;exact jz (e,c.1) h [1,2]
   .refine sr (mq ?_);refine aq ?_;refine cq (nt (cC ?_));refine bf (fV [4,9,42] ⟨rfl,rfl,rfl,trivial⟩) ?_;cases h;exact rb
def cO(k:Nat)(a0:ab)(a2:Int)(r1:(List (List Int))):Nat->Int->Option Bool
 |0,_=>none
 |n+1,y3=>
  if y3 < (a0.2.2.2.2.2.length:Int) then((aK a0.2.2.2.2.2 y3).bind λx5=>
  (((fD k a2 y3).bind λr9=>
  if¬(r9=true) then((aK r1 x5.2.1).bind λh=>
  (aK h x5.1).bind λe=>
  some (!decide ((decide (a0.2.2.1≤e))=x5.2.2))) else(some false)):Option (Bool)).bind λx7=>
  if x7=true then(some false) else((ck (y3+1)).bind λc=>
  cO k a0 a2 r1 n c)) else(some true)
def ir(k:Nat)(a0:ab)(a1:Int)(a2:Int):Option Bool:=
 (nu k a0 a1).bind λr1=>
 cO k a0 a2 r1 k 0
theorem qs(k:Nat)(a0:ab)(c z_a0:Nat)(a1:Int)(a2:Int)(r:Bool)(h:ir k a0 a1 a2=some r):
 E9 (d4 Tryz.prog) 95 [Pt c,.eq (.int .u8 a1),.eq (.int .u8 a2)] [.obj c 122 (aW a0 z_a0),.inv z_a0 (bR k a0)] (.iface 148 (.agg #[])) r:=by
 unfold ir at h
 replace h:=aY h
 refine E9.of 48 Tryz.func95 rfl Tryz.ntmps95 rfl λS w0=>?_
 refine sr ?_
 iterate 2 refine mq ?_
 obtain⟨r1,E,h⟩:=aa h
 have J:=ri k a0 c z_a0 a1 r1 E
 refine fr 1 ?_
 refine fr 1 ?_
 refine aR (Δ:=[_,_]) (F:=_) (λ_ _ _=>aj rfl _) rfl rfl (bb [.tmp 9,.tmp 10] rfl rfl Hy rfl J) ⟨rfl,rfl,trivial⟩ λ_=>?_
 refine aQ rfl rfl rfl (aV rfl Ig Lh) trivial λb2=>?_
 refine aI rfl rfl (aD rfl IP rfl rfl rfl) ⟨rfl,rfl,trivial⟩ ?_
 refine dQ (kJ (t:=(.arr 7 Tr)) (x:=r1) [6] .rep ⟨rfl,trivial⟩) ?_
 refine au ?_
 refine ja (cY rfl) ?_
 refine fl iS ?_
 refine fl dA ?_
 refine lo jw ?_
 refine ol vh ?_
 refine fM rfl ?_
 refine nt ?_
 refine ai ?_
 refine aF (λz4 y3=>[(0,Pt c),(2,.eq (.int .u8 a2)),(6,.at (.arr 7 Tr) r1),(16,Rs aA a0.2.2.2.2.2),(17,I (a0.2.2.2.2.2.length:Int)),(18,I y3)]) (λz4 y3=>[.obj c 122 (aW a0 z_a0),.inv z_a0 (bR k a0)]) (cO k a0 a2 r1) k () 0 (λ_=>rfl) h (SE.fin [0,1] ⟨rfl,rfl,rfl,rfl,rfl,rfl,trivial⟩ rfl) (λn z4 y3 h=>?_)
 unfold cO at h
 refine sr ?_
 refine jb (bj rfl) ?_
 refine au ?_
 refine ci h (λh=>?_) (λh=>?_)
 .
  refine au ?_;refine ai (au ?_);obtain⟨x5,y,h⟩:=aa h;refine jb (aG (t:=aA) rfl vh ix y) ?_;refine ja (ao (t:=aA) rfl ix rfl) ?_;refine aQ rfl rfl rfl (aV rfl AY Lj) trivial λb6=>?_;refine aq ?_;refine aI rfl rfl (aD rfl ix rfl rfl rfl) ⟨rfl,rfl,trivial⟩ ?_;refine nt (aJ (Z:=Unit) (α:=Bool) (λz8 x7=>[(0,Pt c),(2,.eq (.int .u8 a2)),(6,.at (.arr 7 Tr) r1),(16,Rs aA a0.2.2.2.2.2),(17,I (a0.2.2.2.2.2.length:Int)),(18,I y3),(44,.eq (.bool x7))]) (λz8 x7=>[.obj c 122 (aW a0 z_a0),.inv z_a0 (bR k a0)]) h (λK h=>?_) (λz8 x7 h=>?_))
  .refine bD ?_;refine dm ?_;refine dm ?_;obtain⟨r9,D,h⟩:=aa h;refine db (ax [.tmp 23,.tmp 24] rfl rfl KQ rfl (iH k a2 y3 r9 D)) ?_;refine da (eQ rfl) ?_;refine lY rfl rfl rfl (aP rfl) ⟨rfl,trivial⟩ (λhb=>?_) (λhb=>?_)
   .replace h:=dY (ti hb) h;refine bo rfl rfl rfl rfl rfl (av rfl An) ⟨rfl,rfl,trivial⟩ ?_;refine fW 0 rfl rfl rfl rfl rfl rfl (ak rfl bP iV rfl) ⟨rfl,rfl,trivial⟩ ?_;refine bo rfl rfl rfl rfl rfl (av rfl Ao) ⟨rfl,rfl,trivial⟩ ?_;refine fW 0 rfl rfl rfl rfl rfl rfl (ak rfl bP iV rfl) ⟨rfl,rfl,trivial⟩ ?_;obtain⟨M,l,h⟩:=aa h;refine bo rfl rfl rfl rfl rfl (cK (t:=Tr) rfl ME ko l) ⟨rfl,rfl,rfl,trivial⟩ ?_;obtain⟨u,j,h⟩:=aa h;refine bo rfl rfl rfl rfl rfl (cK (t:=Ti) rfl E2 bP j) ⟨rfl,rfl,rfl,trivial⟩ ?_;refine bo rfl rfl rfl rfl rfl (ao (t:=Ti) rfl bP rfl) ⟨rfl,rfl,trivial⟩ ?_;refine bo rfl rfl rfl rfl rfl (aP rfl) ⟨rfl,rfl,trivial⟩ ?_;refine bo rfl rfl rfl rfl rfl (cY rfl) ⟨rfl,rfl,trivial⟩ ?_;refine bo rfl rfl rfl rfl rfl (av rfl iS) ⟨rfl,rfl,trivial⟩ ?_;refine bo rfl rfl rfl rfl rfl (av rfl sL) ⟨rfl,rfl,trivial⟩ ?_;refine fW 1 rfl rfl rfl rfl rfl rfl (ak rfl bP iV rfl) ⟨rfl,rfl,trivial⟩ ?_;refine bo rfl rfl rfl rfl rfl (i9 rfl) ⟨rfl,rfl,rfl,trivial⟩ ?_;refine bo rfl rfl rfl rfl rfl (av rfl KJ) ⟨rfl,rfl,trivial⟩ ?_;refine fW 0 rfl rfl rfl rfl rfl rfl (ak rfl XI iV rfl) ⟨rfl,rfl,trivial⟩ ?_;refine df cy ?_;refine gb (Rn rfl U4) ?_;refine au ?_;exact jz ((), !decide ((decide (a0.2.2.1≤u))=x5.2.2)) h [1,2]
   .replace h:=cz (nC hb) h;iterate 15 refine dg ?_
    refine df cy ?_;refine au ?_;exact jz ((),false) h [1,2]
  .refine cv h (λh=>?_) (λh=>?_)
   .refine ae (bU rfl (JA rfl SU TL) trivial ?_);refine ja (Jx rfl SU) ?_;refine H4 rfl rfl rfl rfl ?_;refine Dq ?_;refine uS ?_;refine uS ?_;refine Dq ?_;refine bf (SE.fin (Γ':=[]) [0,1] trivial rfl) ?_;cases h;exact PP
   .refine au ?_;refine ae ?_;obtain⟨s,e,h⟩:=aa h;refine jb (be rfl e) ?_;refine au ?_;exact jz ((),s) h [0,1]
 .
  refine au ?_;refine kh ?_;refine bf (SE.fin (Γ':=[]) [0,1] trivial rfl) ?_;cases h;exact aN () [] 2 trivial rfl
def dz(k:Nat)(a0:ab)(a1:Int)(a2:Int):Option Bool:=ir k a0 a1 a2
theorem P8:SV Tryz.prog 148 (.agg #[]):=⟨⟨_,SU⟩,λw=>by kernel_rfl⟩
theorem KT:∀(S:FS) (w:World),(A.rep (.arr 0 Ti) []).holds S w (.agg #[]):=λ_ _=>⟨[],⟨rfl,rfl⟩,rfl⟩
theorem P0:∀w,(zeroValue 148).run Tryz.prog w= .ok (.agg #[]) w:=λw=>by kernel_rfl
theorem Qq:∀S w,(A.cells S w (.rep (.arr 0 Ti) []) (Value.cells (.agg #[])).toList):=λ_ _=>⟨rfl,rfl⟩
theorem Qa:eE Tryz.prog 148 0 true:=⟨λw=>by kernel_rfl,λw=>by kernel_rfl⟩
theorem WP:ag Tryz.prog 94:=ag.of Tryz.func94 (by kernel_rfl) (by kernel_rfl)
theorem UT:ag Tryz.prog 95:=ag.of Tryz.func95 (by kernel_rfl) (by kernel_rfl)
theorem M8:eE Tryz.prog 4 1 false:=⟨λw=>by kernel_rfl,λw=>by kernel_rfl⟩
theorem V5:∀w,(zeroValue 4).run Tryz.prog w= .ok (.bool false) w:=λw=>by kernel_rfl
theorem Xu:∀S w,(A.cells S w (.eq (.bool false)) (Value.cells (.bool false)).toList):=λ_ _=>⟨rfl,rfl⟩
theorem C6:AS Tryz.prog 94 (.iface 148 (.agg #[])) 4 (.bool false):=by
 refine⟨WP,λM e0=>?_,λM e0=>?_⟩
 .refine nk.of (M:=M) (m:=.returning) (m1:=.returning) (val:=.nilIface) Tryz.func94 rfl rfl (by decide) rfl rfl (by decide) (λρ=>rfl) (λfr b cs hb hm=>Jb hb hm rfl) (.inl rfl) λb S w0=>?_;refine ja (NF KT rfl P8) ?_;refine au ?_;refine aQ rfl rfl rfl (aV rfl P0 Qq) trivial λb1=>?_;refine aI rfl rfl (aD rfl Qa rfl rfl rfl) ⟨rfl,rfl,trivial⟩ ?_;refine au ?_;refine kl rfl (λhb=>by cases hb) (λhb=>?_);refine iU (kh ?_);refine bf (SE.fin (Γ':=[]) [1] trivial rfl) ?_;exact aN () [] 1 trivial rfl
 .refine nk.of (M:=M) (m:=.panicking (iZ (.iface 148 (.agg #[])) false)) (m1:=.panicking (iZ (.iface 148 (.agg #[])) true)) (val:=.iface 148 (.agg #[])) Tryz.func94 rfl rfl (by decide) rfl rfl (by decide) (λρ=>rfl) (λfr b cs hb hm=>I9 hb hm) (.inr ⟨_,rfl⟩) λb S w0=>?_;refine ja (NE KT rfl P8) ?_;refine au ?_;refine aQ rfl rfl rfl (aV rfl P0 Qq) trivial λb1=>?_;refine aI rfl rfl (aD rfl Qa rfl rfl rfl) ⟨rfl,rfl,trivial⟩ ?_;refine au ?_;refine kl rfl (λhb=>?_) (λhb=>by cases hb);refine ae (fr 1 ?_);refine aI rfl rfl (aD rfl M8 rfl rfl rfl) ⟨rfl,rfl,trivial⟩ ?_;refine bp (kh ?_);refine bf (SE.fin (Γ':=[]) [0] trivial rfl) ?_;exact aN () [] 1 trivial rfl
theorem pH(k:Nat)(a0:ab)(c z_a0:Nat)(a1:Int)(a2:Int)(r:Bool)(h:dz k a0 a1 a2=some r):
 bT (d4 Tryz.prog) 66 [Pt c,.eq (.int .u8 a1),.eq (.int .u8 a2)] (sW a0 c z_a0 k) (λ_:Unit=>(bn [.eq (.bool r)],sW a0 c z_a0 k)):=by
 have cr:=qs k a0 c z_a0 a1 a2 r h
 refine Dv 12 Tryz.func66 rfl Tryz.ntmps66 rfl λS w0=>?_
 refine sr ?_
 refine aQ rfl rfl rfl (aV rfl V5 Xu) trivial λb6=>?_
 refine au ?_
 refine ja (qj [] [.tmp 6] [] [(Pv b6)] rfl rfl rfl) ?_
 refine LK rfl rfl rfl rfl rfl ?_
 refine nt ?_
 refine sr ?_
 iterate 3 refine mq ?_
 refine fr 2 ?_
 refine fr 2 ?_
 cases r with
 |false=>
  refine LL (Ss:=[Pt c,.eq (.int .u8 a1),.eq (.int .u8 a2)]) (Δ:=sW a0 c z_a0 k) (F:=[.obj b6 4 (.eq (.bool false))]) [.tmp 8,.tmp 9,.tmp 10] rfl rfl rfl rfl UT ⟨rfl,rfl,rfl,trivial⟩ cr ?_;refine uS ?_;refine bf (SE.fin (Γ':=[(6,_)]) [2,0,1] ⟨rfl,trivial⟩ rfl) ?_;refine H6 C6 ?_;refine bf (SE.fin (Γ':=[(6,_)]) [1,2,0] ⟨rfl,trivial⟩ rfl) ?_;exact aN () [.eq (.bool false)] 2 ⟨⟨_,_,_,_,_,rfl,(.tail _ (.tail _ (.head _))),M8,(λ_=>rfl),rfl⟩,trivial⟩ rfl
 |true=>
  refine aR (Δ:=sW a0 c z_a0 k) (F:=[.obj b6 4 (.eq (.bool false))]) (λ_ _ _=>aj rfl _) rfl rfl (bb [.tmp 8,.tmp 9,.tmp 10] rfl rfl UT rfl cr.ok) ⟨rfl,rfl,rfl,trivial⟩ λ_=>?_;refine nt (sr (fr 2 ?_));refine aI rfl rfl (aD rfl M8 rfl rfl rfl) ⟨rfl,rfl,trivial⟩ ?_;refine au ?_;refine PO C6 ?_;refine bf (SE.fin (Γ':=[(6,_)]) [1,2,0] ⟨rfl,trivial⟩ rfl) ?_;exact aN () [.eq (.bool true)] 2 ⟨⟨_,_,_,_,_,rfl,(.tail _ (.tail _ (.head _))),M8,(λ_=>rfl),rfl⟩,trivial⟩ rfl
def bQ(k:Nat)(a0:ab)(a1:Int):Option (List Int):=
 (kY k (my (λ(y5:(List Int)) (p7:Int)=>
  (dz k a0 p7 a1).bind λr9=>
  if r9=true then((bO (aZ (length y5+length [p7]))).bind λ_=>
  some (y5++[p7],true)) else(some (y5,true)))) a0.1 (([]:(List Int)),false)).bind λr8=>
 if r8.2=true then(none) else(some r8.1)
theorem eJ(k:Nat)(a0:ab)(c z_a0:Nat)(a1:Int)(r:(List Int))(h:bQ k a0 a1=some r):
 bT (d4 Tryz.prog) 31 [Pt c,.eq (.int .u8 a1)] [.obj c 122 (aW a0 z_a0),.inv z_a0 (bR k a0)] (λ_:Unit=>(bn [.rep (.slice (.int .u8)) r],[.obj c 122 (aW a0 z_a0),.inv z_a0 (bR k a0)])):=by
 unfold bQ at h
 replace h:=aY h
 refine xE 23 Tryz.func31 rfl Tryz.ntmps31 rfl λS w0=>?_
 refine sr ?_
 refine bx λb1=>?_
 refine bx λb2=>?_
 refine au ?_
 refine aQ rfl rfl rfl (aV rfl MH Pe) trivial λb3=>?_
 refine nt ?_
 refine bC ?_
 refine sr ?_
 refine fr 2 ?_
 refine lo DZ ?_
 refine ja (cY rfl) ?_
 refine fl iS ?_
 refine fl ff ?_
 refine fr 3 ?_
 refine lo bP ?_
 refine aQ rfl rfl rfl (ax [.tmp 11] rfl rfl U2 rfl (tz a0.1)) ⟨rfl,trivial⟩ λb4=>?_
 refine nt ?_
 refine ai ?_
 refine ia (SE.nil 67 (.int .u8)) ?_
 refine cJ 6 rfl ?_
 refine cJ 6 rfl ?_
 refine cJ 2 rfl ?_
 refine cJ 6 rfl ?_
 refine cJ 6 rfl ?_
 refine cJ 6 rfl ?_
 refine cJ 6 rfl ?_
 obtain⟨r8,s,h⟩:=aa h
 refine pu (Δ:=[.obj b4 3 (I a0.1),.obj c 122 (aW a0 z_a0),.obj b1 66 (Pt c),.obj b3 73 (.eq (.slice none 0 0)),.sl (.slice none 0 0) 67 (.int .u8) ([]:(List Int)),.obj b2 67 (.eq (.int .u8 a1)),.inv z_a0 (bR k a0)]) (F:=[]) (X:=Value) (J:=λ_=>Ov r8.2) (E:=λz6=>[.obj b4 3 (I a0.1),.obj c 122 (aW a0 z_a0),.obj b1 66 (Pt c),.obj b3 73 (.eq z6),.sl z6 67 (.int .u8) r8.1,.obj b2 67 (.eq (.int .u8 a1)),.inv z_a0 (bR k a0)]) (r0:=λ_=>.tup .any) rfl rfl UV (λrec hp ha hb hs hpe hN hv l=>?_) (λdl z6=>rP (λhj=>?_) (λhj=>?_))
 .
  rcases rec with⟨st0,pe0,fn0,tm0,ps0,as0,bd0,df0⟩;dsimp only at hp ha hb hs hpe hN hv;subst hp hs hpe;have vN:AL tm0 [(2,Pt b1),(3,Pt b2),(5,Pt b3)]:=⟨congrArg A.eq (hv 2 _ rfl).symm,congrArg A.eq (hv 3 _ rfl).symm,congrArg A.eq (hv 5 _ rfl).symm,trivial⟩;refine bT.pick (M:=(d4 Tryz.prog)) [1,0,2,3,4,5,6,7] [1,0,2,3,4,5,6,7] (qw (λ(z6:Value) (q:(List Int)×Bool)=>[.raw l (.loop (jQ ⟨.ready,none,fn0,tm0, #[13],as0,bd0,df0⟩ (Ov q.2))),.obj c 122 (aW a0 z_a0),.obj b1 66 (Pt c),.obj b3 73 (.eq z6),.sl z6 67 (.int .u8) q.1,.obj b2 67 (.eq (.int .u8 a1)),.inv z_a0 (bR k a0)]) l (my (λ(y5:(List Int)) (p7:Int)=>
  (dz k a0 p7 a1).bind λr9=>
  if r9=true then((bO (aZ (length y5+length [p7]))).bind λ_=>
  some (y5++[p7],true)) else(some (y5,true)))) k a0.1 b4 (λz6 q p r' h=>?_) (.slice none 0 0) (([]:(List Int)),false) r8 s) rfl (λ_=>rfl) (λ_=>rfl)
  obtain⟨rq,hq,h2,rfl⟩:=rQ h;obtain⟨y5,b5⟩:=q;obtain rfl:b5=false:=hq;replace h:=aY h2;obtain⟨p7,hpv⟩:∃x,x=p:=⟨_,rfl⟩;subst hpv;refine YT.pick (R':=(λz6:Value=>(.eq (.bool rq.2),[.raw l (.loop (jQ ⟨.ready,none,fn0,tm0, #[13],as0,bd0,df0⟩ (Ov (!rq.2)))),.obj c 122 (aW a0 z_a0),.obj b1 66 (Pt c),.obj b3 73 (.eq z6),.sl z6 67 (.int .u8) rq.1,.obj b2 67 (.eq (.int .u8 a1)),.inv z_a0 (bR k a0)]))) [0,1,2,3,4,5,6] [0,1,2,3,4,5,6] (E0 ha hb (N:=23) (Γ:=[(2,Pt b1),(3,Pt b2),(5,Pt b3)]) rfl hN (by decide) vN (λS w=>?_)) rfl (λ_=>rfl) (λ_=>rfl);refine ae (au ?_);refine xA rfl rfl ?_;refine ai (sr (fr 2 ?_));refine lo DZ ?_;refine mq ?_;refine fr 5 ?_;refine lo rO ?_;obtain⟨r9,n,h⟩:=aa h;refine fr 6 ?_;refine fr 4 ?_;refine aR (Δ:=[_,_]) (F:=_) (λ_ _ _=>aj rfl _) rfl rfl (bb [.tmp 14,.tmp 15,.tmp 16] rfl rfl W1 rfl (pH k a0 c z_a0 p7 a1 r9 n)) ⟨rfl,rfl,rfl,trivial⟩ λ_=>?_;refine nt (cv h (λh=>?_) (λh=>?_))
  .refine ae (fr 5 ?_);refine lo zw ?_;refine mq ?_;refine ja (aX (t:=(.int .u8)) [(.tmp 19,_)] [p7] rfl rfl Np (.cons rfl .int .nil) rfl rfl) ?_;obtain⟨u,e,h⟩:=aa h;refine fr 6 ?_;refine cI rfl rfl rfl (bg rfl rfl Np (ap e)) ⟨rfl,rfl,trivial⟩ λj=>?_;refine nf λo12=>?_;refine fr 1 ?_;refine aI rfl rfl (aD rfl zw o12 rfl rfl) ⟨rfl,rfl,trivial⟩ ?_;refine bp (fN (aL 3 rfl ?_));refine aL 4 rfl ?_;refine aL 3 rfl ?_;refine aL 3 rfl ?_;refine aL 5 rfl ?_;refine aL 5 rfl ?_;refine aL 6 rfl ?_;cases h;exact mg j 6 rfl
  .refine iU (fN (aL 1 rfl ?_));refine aL 2 rfl ?_;refine aL 6 rfl ?_;refine aL 6 rfl ?_;refine aL 5 rfl ?_;refine aL 5 rfl ?_;refine aL 6 rfl ?_;cases h;exact mg z6 6 rfl
 .
  replace h:=cz (MA hj) h;refine fN (tn (sr (fr 4 ?_)));refine lo zw ?_;refine aq (nt (cC ?_));refine aL 5 rfl ?_;refine bf (gU (off:=0) [4,22] ⟨rfl,rfl,trivial⟩ rfl rfl) ?_;refine aL 1 rfl ?_;refine GI ?_;refine bf (SE.fin (Γ':=[(4,_)]) [2,5,0,1,3,4] ⟨rfl,trivial⟩ rfl) ?_;cases h;exact aN () [_] 2 ⟨rfl,trivial⟩ rfl
 .
  replace h:=dY (Me hj) h;cases h
def kR(k:Nat)(r7:(List Int)):Nat->((List (List Int))×Int)->Option (List (List Int))
 |0,_=>none
 |n+1,y8=>
  if y8.2 < (r7.length:Int) then((aK r7 y8.2).bind λh=>
  (jU k h).bind λc=>
  (bO (aZ (length y8.1+length [c]))).bind λ_=>
  (ck (y8.2+1)).bind λe=>
  kR k r7 n (y8.1++[c],e)) else(some y8.1)
def sD(k:Nat)(a0:ab):Option ((List (List Int))×Int):=
 (je k a0 ([]:(List Int)) ([]:(List Int)) ([]:(List Int)) ([]:(List Int))).bind λr2=>
 fS r2.1 (if¬(r2.2.2=0) then(some (([]:(List (List Int))),r2.2.2)) else(none)) (λq3=>if¬(r2.2.2=0) then(some (([]:(List (List Int))),r2.2.2)) else((((bQ k q3 0).bind λr7=>
 kR k r7 k (([]:(List (List Int))),0)):Option ((List (List Int)))).bind λx5=>
 some (x5,0)))
theorem yg(k:Nat)(a0:ab)(r:(List (List Int))×Int)(h:sD k a0=some r):
 bT (d4 Tryz.prog) 18 [.rep ah a0] [] (λ_:Unit=>(bn [.rep (.slice Tl) r.1,I r.2],[])):=by
 unfold sD at h
 replace h:=aY h
 refine bT.of 33 Tryz.func18 rfl Tryz.ntmps18 rfl λS w0=>?_
 refine sr ?_
 refine bx λb1=>?_
 refine au ?_
 refine lo bB ?_
 obtain⟨r2,M,h⟩:=aa h
 have c:=jE k a0 ([]:(List Int)) ([]:(List Int)) ([]:(List Int)) ([]:(List Int)) r2 M
 rcases hr:r2.1 with _ |q3
 .
  rw [hr] at h c;replace h:=uL h;refine aR (Δ:=[]) (F:=_) (λ_ _ _=>aj rfl _) rfl rfl (bv (N:=[(.tmp 11,.rep ah a0),(.const (.slice none 0 0),.eq (.slice none 0 0)),(.const (.slice none 0 0),.eq (.slice none 0 0)),(.const (.slice none 0 0),.eq (.slice none 0 0)),(.const (.slice none 0 0),.eq (.slice none 0 0))]) (bb [.tmp 11,.const (.slice none 0 0),.const (.slice none 0 0),.const (.slice none 0 0),.const (.slice none 0 0)] rfl rfl vv rfl c) λ_ _ _ hn=>⟨hn.1,(aE (t:=Tl) (x:=([]:(List Int))) .nil rfl rfl hn.2.1),(aE (t:=Tl) (x:=([]:(List Int))) .nil rfl rfl hn.2.2.1),(aE (t:=Tl) (x:=([]:(List Int))) .nil rfl rfl hn.2.2.2.1),(aE (t:=Tl) (x:=([]:(List Int))) .nil rfl rfl hn.2.2.2.2.1),trivial⟩) ⟨rfl,rfl,rfl,rfl,rfl,trivial⟩ λ_=>?_;refine au ?_;refine jb (dG rfl) ?_;refine nt (cn h (λh=>?_) (λh=>?_))
  .refine sr (mq ?_);refine cq ?_;refine aq (nt (rx ?_));refine bf (eN (t:=(.slice Tl)) (x:=([]:(List (List Int)))) 2 rfl .nil rfl rfl) ?_;cases h;exact rb
  .cases h
 .
  rw [hr] at h c;replace h:=uK h;refine aR (Δ:=[]) (F:=_) (λ_ _ _=>aj rfl _) rfl rfl (bv (N:=[(.tmp 11,.rep ah a0),(.const (.slice none 0 0),.eq (.slice none 0 0)),(.const (.slice none 0 0),.eq (.slice none 0 0)),(.const (.slice none 0 0),.eq (.slice none 0 0)),(.const (.slice none 0 0),.eq (.slice none 0 0))]) (bb [.tmp 11,.const (.slice none 0 0),.const (.slice none 0 0),.const (.slice none 0 0),.const (.slice none 0 0)] rfl rfl vv rfl c) λ_ _ _ hn=>⟨hn.1,(aE (t:=Tl) (x:=([]:(List Int))) .nil rfl rfl hn.2.1),(aE (t:=Tl) (x:=([]:(List Int))) .nil rfl rfl hn.2.2.1),(aE (t:=Tl) (x:=([]:(List Int))) .nil rfl rfl hn.2.2.2.1),(aE (t:=Tl) (x:=([]:(List Int))) .nil rfl rfl hn.2.2.2.2.1),trivial⟩) ⟨rfl,rfl,rfl,rfl,rfl,trivial⟩ λz4=>?_;refine au ?_;refine jb (dG rfl) ?_;refine nt (cn h (λh=>?_) (λh=>?_))
  .refine sr (mq ?_);refine cq ?_;refine aq (nt (rx ?_));refine bf (eN (t:=(.slice Tl)) (x:=([]:(List (List Int)))) 2 rfl .nil rfl rfl) ?_;cases h;exact rb
  .refine sk (sr (cq (nt ?_)));refine aJ (Z:=Value) (α:=(List (List Int))) (λz6 x5=>[(7,.eq z6)]) (λz6 x5=>[.sl z6 28 Tl x5,.inv z4.2 (bR k q3)]) h (λK h=>?_) (λz6 x5 h=>?_)
   .refine sr (mq ?_);obtain⟨r7,J,h⟩:=aa h;refine fr 1 ?_;refine fr 1 ?_;refine aR (Δ:=[_,_]) (F:=_) (λ_ _ _=>aj rfl _) rfl rfl (bb [.tmp 19,.const (.int .u8 (0))] rfl rfl KR rfl (eJ k q3 z4.1 z4.2 0 r7 J)) ⟨rfl,rfl,trivial⟩ λ_=>?_;refine ol AM ?_;refine fM rfl ?_;refine nt (ai (ia (SE.nil 28 Tl) ?_));refine aF (λz9 y8=>[(7,.eq z9),(20,.rep (.slice (.int .u8)) r7),(21,I (r7.length:Int)),(22,I y8.2)]) (λz9 y8=>[.sl z9 28 Tl y8.1,.inv z4.2 (bR k q3)]) (kR k r7) k (.slice none 0 0) (([]:(List (List Int))),0) (λ_=>rfl) h (SE.fin [0,2] ⟨rfl,rfl,rfl,rfl,trivial⟩ rfl) (λn z9 y8 h=>?_);unfold kR at h;refine sr (jb (bj rfl) ?_);refine au ?_;refine ci h (λh=>?_) (λh=>?_)
    .refine au ?_;refine ai (sr ?_);obtain⟨D,l,h⟩:=aa h;refine jb (aG (t:=(.int .u8)) rfl AM rO l) ?_;refine ja (ao (t:=(.int .u8)) rfl rO rfl) ?_;refine au ?_;refine ae (au ?_);obtain⟨e,u,h⟩:=aa h;refine ja (ax [.tmp 27] rfl rfl RZ rfl (lD k D e u)) ?_;refine ja (aX (t:=Tl) [(.tmp 28,_)] [e] rfl rfl kU (.cons rfl .rep .nil) rfl rfl) ?_;obtain⟨O,s,h⟩:=aa h;refine cI rfl rfl rfl (bg rfl rfl kU (ap s)) ⟨rfl,rfl,trivial⟩ λE=>?_;refine au ?_;refine ae ?_;obtain⟨y,j,h⟩:=aa h;refine jb (be rfl j) ?_;refine au ?_;exact jz (E,(y8.1++[e],y)) h [0,1]
    .refine au ?_;exact jz (z9,y8.1) h [0,1]
   .refine sr (mq ?_);refine aq ?_;refine cq (nt (cC ?_));refine bf (fV [2,7,32] ⟨rfl,rfl,rfl,trivial⟩) ?_;cases h;exact rb
def oz(k:Nat)(a0:ab)(a1:(List Int))(a2:(List Int))(a3:(List Int)):Option ((Option ab)×(List Int)×Int):=
 (je k a0 ([]:(List Int)) a1 a2 a3).bind λr2=>
 fS r2.1 (if¬(r2.2.2=0) then(some (none,([]:(List Int)),r2.2.2)) else(none)) (λq3=>if¬(r2.2.2=0) then(some (none,([]:(List Int)),r2.2.2)) else((bQ k q3 0).bind λr5=>
 if(r5.length:Int)=0 then(some (none,([]:(List Int)),9)) else(some (some q3,r5,0))))
theorem oY(k:Nat)(a0:ab)(a1:(List Int))(a2:(List Int))(a3:(List Int))(r:(Option ab)×(List Int)×Int)(h:oz k a0 a1 a2 a3=some r):
 bT (d4 Tryz.prog) 44 [.rep ah a0,.rep Tl a1,.rep Tl a2,.rep Tl a3] [] (λz:Nat×Nat=>(bn [ND r.1 z.1,.rep (.slice (.int .u8)) r.2.1,I r.2.2],NC r.1 λq=>sW q z.1 z.2 k)):=by
 unfold oz at h
 replace h:=aY h
 refine bT.of 34 Tryz.func44 rfl Tryz.ntmps44 rfl λS w0=>?_
 refine sr ?_
 refine bx λb1=>?_
 refine au ?_
 refine lo bB ?_
 refine au ?_
 obtain⟨r2,j,h⟩:=aa h
 have c:=jE k a0 ([]:(List Int)) a1 a2 a3 r2 j
 rcases hr:r2.1 with _ |q3
 .
  rw [hr] at h c;replace h:=uL h;refine aR (Δ:=[]) (F:=_) (λ_ _ _=>aj rfl _) rfl rfl (bv (N:=[(.tmp 16,.rep ah a0),(.const (.slice none 0 0),.eq (.slice none 0 0)),(.tmp 17,.rep Tl a1),(.tmp 18,.rep Tl a2),(.tmp 19,.rep Tl a3)]) (bb [.tmp 16,.const (.slice none 0 0),.tmp 17,.tmp 18,.tmp 19] rfl rfl vv rfl c) λ_ _ _ hn=>⟨hn.1,(aE (t:=Tl) (x:=([]:(List Int))) .nil rfl rfl hn.2.1),hn.2.2.1,hn.2.2.2.1,hn.2.2.2.2.1,trivial⟩) ⟨rfl,rfl,rfl,rfl,rfl,trivial⟩ λ_=>?_;refine au ?_;refine jb (dG rfl) ?_;refine nt (cn h (λh=>?_) (λh=>?_))
  .refine sr (mq ?_);refine cq ?_;refine cq ?_;refine aq (nt (rx ?_));refine bf (eN (t:=(.slice (.int .u8))) (x:=([]:(List Int))) 9 rfl .nil rfl rfl) ?_;cases h;exact aN (0,0) [.eq (.pointer none),_,_] 0 ⟨rfl,rfl,rfl,trivial⟩ rfl
  .cases h
 .
  rw [hr] at h c;replace h:=uK h;refine aR (Δ:=[]) (F:=_) (λ_ _ _=>aj rfl _) rfl rfl (bv (N:=[(.tmp 16,.rep ah a0),(.const (.slice none 0 0),.eq (.slice none 0 0)),(.tmp 17,.rep Tl a1),(.tmp 18,.rep Tl a2),(.tmp 19,.rep Tl a3)]) (bb [.tmp 16,.const (.slice none 0 0),.tmp 17,.tmp 18,.tmp 19] rfl rfl vv rfl c) λ_ _ _ hn=>⟨hn.1,(aE (t:=Tl) (x:=([]:(List Int))) .nil rfl rfl hn.2.1),hn.2.2.1,hn.2.2.2.1,hn.2.2.2.2.1,trivial⟩) ⟨rfl,rfl,rfl,rfl,rfl,trivial⟩ λz4=>?_;refine au ?_;refine jb (dG rfl) ?_;refine nt (cn h (λh=>?_) (λh=>?_))
  .refine sr (mq ?_);refine cq ?_;refine cq ?_;refine aq (nt (rx ?_));refine bf (eN (t:=(.slice (.int .u8))) (x:=([]:(List Int))) 9 rfl .nil rfl rfl) ?_;cases h;exact aN (0,0) [.eq (.pointer none),_,_] 0 ⟨rfl,rfl,rfl,trivial⟩ rfl
  .refine sk (sr (mq ?_));obtain⟨r5,e,h⟩:=aa h;refine fr 1 ?_;refine fr 1 ?_;refine aR (Δ:=[_,_]) (F:=_) (λ_ _ _=>aj rfl _) rfl rfl (bb [.tmp 27,.const (.int .u8 (0))] rfl rfl KR rfl (eJ k q3 z4.1 z4.2 0 r5 e)) ⟨rfl,rfl,trivial⟩ λ_=>?_;refine au ?_;refine ol AM ?_;refine jb (iG rfl) ?_;refine nt (ci h (λh=>?_) (λh=>?_))
   .refine sr (cq ?_);refine cq ?_;refine cq (nt (rx ?_));refine bf (eN (t:=(.slice (.int .u8))) (x:=([]:(List Int))) 9 rfl .nil rfl rfl) ?_;cases h;exact aN (0,0) [.eq (.pointer none),_,_] 0 ⟨rfl,rfl,rfl,trivial⟩ rfl
   .refine au ?_;cases h;exact aN (z4.1,z4.2) [.eq (.pointer (some ⟨z4.1,0,none⟩)),_,_] 2 ⟨rfl,rfl,rfl,trivial⟩ rfl
def gP(k:Nat)(a2:Int)(r1:(List (List Int)))(x5:Int):Nat->Int->Option (Except Int Unit)
 |0,_=>none
 |n+1,y6=>
  if y6 < x5 then((aK r1 y6).bind λx8=>
  (aK x8 a2).bind λx9=>
  if 0≤x9 then(some (.error y6)) else((ck (y6+1)).bind λc=>
  gP k a2 r1 x5 n c)) else(some (.ok ()))
def jr(k:Nat)(a0:ab)(a1:Int)(a2:Int):Option Int:=
 (nu k a0 a1).bind λr1=>
 bE (α:=Unit) ((ck ((a0.2.2.2.2.1.length:Int)+1)).bind λx5=>
 gP k a2 r1 x5 k 0) (some) λ_=>
 some (-1:Int)
theorem mO(k:Nat)(a0:ab)(c z_a0:Nat)(a1:Int)(a2:Int)(r:Int)(h:jr k a0 a1 a2=some r):
 bT (d4 Tryz.prog) 45 [Pt c,.eq (.int .u8 a1),I a2] [.obj c 122 (aW a0 z_a0),.inv z_a0 (bR k a0)] (λ_:Unit=>(bn [I r],[.obj c 122 (aW a0 z_a0),.inv z_a0 (bR k a0)])):=by
 unfold jr at h
 replace h:=aY h
 refine bT.of 30 Tryz.func45 rfl Tryz.ntmps45 rfl λS w0=>?_
 refine sr ?_
 refine cq ?_
 refine nt ?_
 refine sr ?_
 iterate 2 refine mq ?_
 obtain⟨r1,D,h⟩:=aa h
 have E:=ri k a0 c z_a0 a1 r1 D
 refine fr 1 ?_
 refine fr 1 ?_
 refine aR (Δ:=[_,_]) (F:=_) (λ_ _ _=>aj rfl _) rfl rfl (bb [.tmp 9,.tmp 10] rfl rfl Hy rfl E) ⟨rfl,rfl,trivial⟩ λ_=>?_
 refine aQ rfl rfl rfl (aV rfl Ig Lh) trivial λb2=>?_
 refine aI rfl rfl (aD rfl IP rfl rfl rfl) ⟨rfl,rfl,trivial⟩ ?_
 refine dQ (kJ (t:=(.arr 7 Tr)) (x:=r1) [7] .rep ⟨rfl,trivial⟩) ?_
 refine nt ?_
 refine cF (Z:=Unit) (α:=Unit) (λz4 x3=>[]) (λz4 x3=>[.obj c 122 (aW a0 z_a0),.inv z_a0 (bR k a0)]) (λe=>e=r) h (λe h=>Option.some.inj h) (λK hR h=>?_) (λz4 x3 h=>?_)
 .
  refine au ?_;refine ja (cY rfl) ?_;refine fl iS ?_;refine fl co ?_;refine lo fp ?_;refine ol pJ ?_;obtain⟨x5,y,h⟩:=aa h;refine jb (be rfl y) ?_;refine fM rfl ?_;refine nt (ai (aF (λz7 y6=>[(2,I a2),(7,.at (.arr 7 Tr) r1),(18,I x5),(19,I y6)]) (λz7 y6=>[.obj c 122 (aW a0 z_a0),.inv z_a0 (bR k a0)]) (gP k a2 r1 x5) k () 0 (λ_=>rfl) h (SE.fin [0,1] ⟨rfl,rfl,rfl,rfl,trivial⟩ rfl) (λn z7 y6 h=>?_)));unfold gP at h;refine sr (jb (bj rfl) ?_);refine au ?_;refine ci h (λh=>?_) (λh=>?_)
  .refine au ?_;refine ai (au ?_);obtain⟨x8,u,h⟩:=aa h;refine jb (cK (t:=Tr) rfl ME ko u) ?_;obtain⟨x9,s,h⟩:=aa h;refine jb (cK (t:=Ti) rfl E2 bP s) ?_;refine ja (ao (t:=Ti) rfl bP rfl) ?_;refine jb (i9 rfl) ?_;refine nt (ci h (λh=>?_) (λh=>?_))
   .refine au ?_;obtain rfl:=hR _ h;exact aN () [_] 2 ⟨rfl,trivial⟩ rfl
   .refine au ?_;refine ae ?_;obtain⟨l,j,h⟩:=aa h;refine jb (be rfl j) ?_;refine au ?_;exact jz ((),l) h [0,1]
  .refine au ?_;exact jz ((),()) h [0,1]
 .
  refine au ?_;cases h;exact aN () [_] 2 ⟨rfl,trivial⟩ rfl
def lT(k:Nat)(a1:Int)(r3:(Option ab)×(List Int)×Int)(q4:ab):Nat->((List Int)×Int)->Option (List Int)
 |0,_=>none
 |n+1,y8=>
  if y8.2 < (r3.2.1.length:Int) then((((aK r3.2.1 y8.2).bind λh=>
  (jr k q4 h a1).bind λc=>
  if 0≤c then((bO (aZ (length y8.1+length [c]))).bind λ_=>
  some (y8.1++[c])) else(some y8.1)):Option ((List Int))).bind λj=>
  (ck (y8.2+1)).bind λe=>
  lT k a1 r3 q4 n (j,e)) else(some y8.1)
def uq(k:Nat)(a0:ab)(a1:Int):Option (gd×Int):=
 (oz k a0 [a1] ([]:(List Int)) ([]:(List Int))).bind λr3=>
 fS r3.1 (if¬(r3.2.2=0) then(some ((0,0),r3.2.2)) else(none)) (λq4=>if¬(r3.2.2=0) then(some ((0,0),r3.2.2)) else(((lT k a1 r3 q4 k (([]:(List Int)),0)):Option ((List Int))).bind λx6=>
 if(x6.length:Int)=0 then(some ((0,0),11)) else((nz k x6).bind λe=>
 (pU k x6).bind λc=>
 some ((e,c),0))))
theorem Aa(k:Nat)(a0:ab)(a1:Int)(r:gd×Int)(h:uq k a0 a1=some r):
 bT (d4 Tryz.prog) 19 [.rep ah a0,I a1] [] (λ_:Unit=>(bn [.rep bZ r.1,I r.2],[])):=by
 unfold uq at h
 replace h:=aY h
 refine bT.of 51 Tryz.func19 rfl Tryz.ntmps19 rfl λS w0=>?_
 refine sr ?_
 refine bx λb1=>?_
 refine aQ rfl rfl rfl (aV rfl DG Vv) trivial λb2=>?_
 refine cq ?_
 refine nt ?_
 refine sr ?_
 refine fr 1 ?_
 refine lo bB ?_
 refine mq ?_
 refine ja (aX (t:=Ti) [(.tmp 15,_)] [a1] rfl rfl cX (.cons rfl .int .nil) rfl rfl) ?_
 obtain⟨r3,Y,h⟩:=aa h
 have s:=oY k a0 [a1] ([]:(List Int)) ([]:(List Int)) r3 Y
 rcases hr:r3.1 with _ |q4
 .
  rw [hr] at h s;replace h:=uL h;refine aR (Δ:=[]) (F:=_) (λ_ _ _=>aj rfl _) rfl rfl (bv (N:=[(.tmp 14,.rep ah a0),(.tmp 16,.rep Tl [a1]),(.const (.slice none 0 0),.eq (.slice none 0 0)),(.const (.slice none 0 0),.eq (.slice none 0 0))]) (bb [.tmp 14,.tmp 16,.const (.slice none 0 0),.const (.slice none 0 0)] rfl rfl Hw rfl s) λ_ _ _ hn=>⟨hn.1,hn.2.1,(aE (t:=Tl) (x:=([]:(List Int))) .nil rfl rfl hn.2.2.1),(aE (t:=Tl) (x:=([]:(List Int))) .nil rfl rfl hn.2.2.2.1),trivial⟩) ⟨rfl,rfl,rfl,rfl,trivial⟩ λ_=>?_;refine au ?_;refine jb (dG rfl) ?_;refine nt (cn h (λh=>?_) (λh=>?_))
  .refine sr (bU rfl (cN [] rfl Jo DG Dh (fX trivial) rfl) trivial ?_);refine mq ?_;refine fr 1 ?_;refine aI rfl rfl (aD rfl xQ trivial rfl rfl) ⟨rfl,rfl,trivial⟩ ?_;refine aq (nt (rx ?_));refine bf (c6 (a:=.agg (.pair (I 0) (I 0))) (a':=.rep bZ (0,0)) (dZ (.agg (.pair .int .int)))) ?_;cases h;exact aN () [.rep bZ (0,0),_] 0 ⟨⟨_,_,_,_,_,rfl,(.head _),xQ,(kB),rfl⟩,rfl,trivial⟩ rfl
  .cases h
 .
  rw [hr] at h s;replace h:=uK h;refine aR (Δ:=[]) (F:=_) (λ_ _ _=>aj rfl _) rfl rfl (bv (N:=[(.tmp 14,.rep ah a0),(.tmp 16,.rep Tl [a1]),(.const (.slice none 0 0),.eq (.slice none 0 0)),(.const (.slice none 0 0),.eq (.slice none 0 0))]) (bb [.tmp 14,.tmp 16,.const (.slice none 0 0),.const (.slice none 0 0)] rfl rfl Hw rfl s) λ_ _ _ hn=>⟨hn.1,hn.2.1,(aE (t:=Tl) (x:=([]:(List Int))) .nil rfl rfl hn.2.2.1),(aE (t:=Tl) (x:=([]:(List Int))) .nil rfl rfl hn.2.2.2.1),trivial⟩) ⟨rfl,rfl,rfl,rfl,trivial⟩ λz5=>?_;refine au ?_;refine jb (dG rfl) ?_;refine nt (cn h (λh=>?_) (λh=>?_))
  .refine sr (bU rfl (cN [] rfl Jo DG Dh (fX trivial) rfl) trivial ?_);refine mq ?_;refine fr 3 ?_;refine aI rfl rfl (aD rfl xQ trivial rfl rfl) ⟨rfl,rfl,trivial⟩ ?_;refine aq (nt (rx ?_));refine bf (c6 (a:=.agg (.pair (I 0) (I 0))) (a':=.rep bZ (0,0)) (dZ (.agg (.pair .int .int)))) ?_;cases h;exact aN () [.rep bZ (0,0),_] 0 ⟨⟨_,_,_,_,_,rfl,(.head _),xQ,(kB),rfl⟩,rfl,trivial⟩ rfl
  .refine sk (sr (cq (nt ?_)));refine aJ (Z:=Value) (α:=(List Int)) (λz7 x6=>[(4,Pt b2),(9,.eq z7)]) (λz7 x6=>[.obj b2 51 (.agg (.pair (I 0) (I 0))),.sl z7 3 Ti x6,.inv z5.2 (bR k q4)]) h (λK h=>?_) (λz7 x6 h=>?_)
   .refine au ?_;refine ol AM ?_;refine fM rfl ?_;refine nt (ai (ia (SE.nil 3 Ti) ?_));refine aF (λz9 y8=>[(1,I a1),(4,Pt b2),(6,.eq (.pointer (some ⟨z5.1,0,none⟩))),(9,.eq z9),(25,.rep (.slice (.int .u8)) r3.2.1),(26,I (r3.2.1.length:Int)),(27,I y8.2)]) (λz9 y8=>[.obj b2 51 (.agg (.pair (I 0) (I 0))),.obj z5.1 122 (aW q4 z5.2),.sl z9 3 Ti y8.1,.inv z5.2 (bR k q4)]) (lT k a1 r3 q4) k (.slice none 0 0) (([]:(List Int)),0) (λ_=>rfl) h (SE.fin [4,1,0,2] ⟨rfl,rfl,rfl,rfl,rfl,rfl,rfl,trivial⟩ rfl) (λn z9 y8 h=>?_);unfold lT at h;refine sr (jb (bj rfl) ?_);refine au ?_;refine ci h (λh=>?_) (λh=>?_)
    .refine sk (aJ (Z:=Value) (α:=(List Int)) (λc e=>[(1,I a1),(4,Pt b2),(6,.eq (.pointer (some ⟨z5.1,0,none⟩))),(9,.eq c),(25,.rep (.slice (.int .u8)) r3.2.1),(26,I (r3.2.1.length:Int)),(27,I y8.2)]) (λc e=>[.obj b2 51 (.agg (.pair (I 0) (I 0))),.obj z5.1 122 (aW q4 z5.2),.sl c 3 Ti e,.inv z5.2 (bR k q4)]) h (λK h=>?_) (λc e h=>?_))
     .refine ai (sr ?_);obtain⟨U,D,h⟩:=aa h;refine jb (aG (t:=(.int .u8)) rfl AM rO D) ?_;refine ja (ao (t:=(.int .u8)) rfl rO rfl) ?_;refine aq (nt (sr ?_));iterate 3 refine mq ?_
      obtain⟨u,O,h⟩:=aa h;refine fr 3 ?_;refine fr 2 ?_;refine aR (Δ:=[_,_]) (F:=_) (λ_ _ _=>aj rfl _) rfl rfl (bb [.tmp 31,.tmp 32,.tmp 33] rfl rfl U8 rfl (mO k q4 z5.1 z5.2 U a1 u O)) ⟨rfl,rfl,rfl,trivial⟩ λ_=>?_;refine au ?_;refine jb (i9 rfl) ?_;refine nt (ci h (λh=>?_) (λh=>?_))
      .refine ae (au ?_);refine ja (aX (t:=Ti) [(.tmp 38,_)] [u] rfl rfl cX (.cons rfl .int .nil) rfl rfl) ?_;obtain⟨gw,E,h⟩:=aa h;refine fr 3 ?_;refine cI rfl rfl rfl (bg rfl rfl cX (ap E)) ⟨rfl,rfl,trivial⟩ λX=>?_;refine au ?_;exact jz (X,y8.1++[u]) h [3,1,0,2]
      .refine au ?_;exact jz (z9,y8.1) h [2,0,3,1]
     .refine ae ?_;obtain⟨Q,y,h⟩:=aa h;refine jb (be rfl y) ?_;refine au ?_;exact jz (c,(e,Q)) h [0,1,2,3]
    .refine au ?_;exact jz (z9,y8.1) h [0,2,3]
   .refine bC (sr (mq ?_));refine fr 1 ?_;refine ka (ou rfl rfl gX) ?_;refine jb (iG rfl) ?_;refine nt (ci h (λh=>?_) (λh=>?_))
    .refine sr (bU rfl (cN [] rfl Jo DG Dh (fX trivial) rfl) trivial ?_);refine fr 1 ?_;refine aI rfl rfl (aD rfl xQ trivial rfl rfl) ⟨rfl,rfl,trivial⟩ ?_;refine cq (nt (rx ?_));refine bf (c6 (a:=.agg (.pair (I 0) (I 0))) (a':=.rep bZ (0,0)) (dZ (.agg (.pair .int .int)))) ?_;cases h;exact aN () [.rep bZ (0,0),_] 0 ⟨⟨_,_,_,_,_,rfl,(.head _),xQ,(kB),rfl⟩,rfl,trivial⟩ rfl
    .refine au ?_;obtain⟨l,M,h⟩:=aa h;refine ka (jB (N:=[(.tmp 46,.eq z7)]) (ax [.tmp 46] rfl rfl U7 rfl (pT k x6 l M)) (λ_ _ _ hv hn=>⟨(lend hn.1 hv),trivial⟩) (λ_=>⟨rfl,oL⟩)) ?_;refine mq ?_;obtain⟨j,J,h⟩:=aa h;refine ka (jB (N:=[(.tmp 48,.eq z7)]) (ax [.tmp 48] rfl rfl Xe rfl (wj k x6 j J)) (λ_ _ _ hv hn=>⟨(lend hn.1 hv),trivial⟩) (λ_=>⟨rfl,oL⟩)) ?_;refine jb (cN [(0,.tmp 47,_),(1,.tmp 49,_)] rfl Jo DG Dh (fX ⟨rfl,rfl,trivial⟩) rfl) ?_;refine fr 1 ?_;refine aI rfl rfl (aD rfl xQ trivial rfl rfl) ⟨rfl,rfl,trivial⟩ ?_;refine cq (nt (cC ?_));refine bf (c6 (a:=.agg (.pair (I l) (I j))) (a':=.rep bZ (l,j)) (dZ (.agg (.pair .int .int)))) ?_;cases h;exact aN () [.rep bZ (l,j),_] 0 ⟨⟨_,_,_,_,_,rfl,(.head _),xQ,(kB),rfl⟩,rfl,trivial⟩ rfl
def iu(k:Nat)(r2:(List (List Int)))(y6:Int×Int×(List (fg×fg))):Nat->Int->Option Int
 |0,_=>none
 |n+1,c=>
  ((if 0 < c then((ck (c - 1)).bind λl=>
  (aK r2 l).bind λj=>
  (aK j y6.1).bind λh=>
  some (decide (0≤h))) else(some false)):Option (Bool)).bind λr=>
  if r=true then((ck (c - 1)).bind λe=>
  iu k r2 y6 n e) else(some c)
def iv(k:Nat)(a0:ab)(r2:(List (List Int))):Nat->(Int×Int×(List (fg×fg)))->Option (List (gd×gd))
 |0,_=>none
 |n+1,y6=>
  bE (α:=Int×Int×(List (fg×fg))) (((iu k r2 y6 k y6.2.1):Option (Int)).bind λc=>
  if c=0 then((bO (Bj (y6.1,y6.2.1))).bind λ_=>
  some (.error (Ey y6.2.2 (y6.1,y6.2.1) ((-1:Int),0)))) else((ck (c - 1)).bind λr=>
  (aK r2 r).bind λl=>
  (ck (c - 1)).bind λj=>
  (dO k a0 l y6.1 j).bind λh=>
  (ck (c - 1)).bind λe=>
  (bO (Bj (y6.1,y6.2.1))).bind λ_=>
  some (.ok (h,e,Ey y6.2.2 (y6.1,y6.2.1) (h,e))))) (some) λx8=>
  iv k a0 r2 n (x8.1,x8.2.1,x8.2.2)
def mQ(k:Nat)(a0:ab)(a1:Int)(a2:gd):Option (List (gd×gd)):=
 (nu k a0 a1).bind λr2=>
 iv k a0 r2 k (a2.1,a2.2,([]:List (fg×fg)))
theorem tw(k:Nat)(a0:ab)(c z_a0:Nat)(a1:Int)(a2:gd)(r:(List (gd×gd)))(h:mQ k a0 a1 a2=some r):
 bT (d4 Tryz.prog) 48 [Pt c,.eq (.int .u8 a1),.rep bZ a2] [.obj c 122 (aW a0 z_a0),.inv z_a0 (bR k a0)] (λz:Nat=>(bn [.eq (.map (some z))],[.inv z (vl r),.obj c 122 (aW a0 z_a0),.inv z_a0 (bR k a0)])):=by
 unfold mQ at h
 replace h:=aY h
 refine bT.of 56 Tryz.func48 rfl Tryz.ntmps48 rfl λS w0=>?_
 refine sr ?_
 refine bx λb1=>?_
 refine cq ?_
 refine nt ?_
 refine sr ?_
 iterate 2 refine mq ?_
 obtain⟨r2,Yu,h⟩:=aa h
 have Yv:=ri k a0 c z_a0 a1 r2 Yu
 refine fr 2 ?_
 refine fr 2 ?_
 refine aR (Δ:=[_,_]) (F:=_) (λ_ _ _=>aj rfl _) rfl rfl (bb [.tmp 12,.tmp 13] rfl rfl Hy rfl Yv) ⟨rfl,rfl,trivial⟩ λ_=>?_
 refine aQ rfl rfl rfl (aV rfl Ig Lh) trivial λb3=>?_
 refine aI rfl rfl (aD rfl IP rfl rfl rfl) ⟨rfl,rfl,trivial⟩ ?_
 refine dQ (kJ (t:=(.arr 7 Tr)) (x:=r2) [7] .rep ⟨rfl,trivial⟩) ?_
 refine au ?_
 refine aQ rfl rfl rfl (yH rfl) trivial λz4=>?_
 refine dQ (uP (vl []) M5) ?_
 refine au ?_
 refine aQ rfl rfl rfl (aV rfl AX Le) trivial λb5=>?_
 refine au ?_
 refine fl EJ ?_
 refine aI rfl rfl (aD rfl bP rfl rfl rfl) ⟨rfl,rfl,trivial⟩ ?_
 refine nt ?_
 refine ai ?_
 refine cJ 4 rfl ?_
 refine ia (c6 (a:=.rep bZ a2) (a':=.agg (.pair (I a2.1) (I a2.2))) (AE.trans GT (AE.agg (AE.trans Dw (AE.pair AE.int AE.int))))) ?_
 refine aF (λz7 y6=>[(0,Pt c),(5,Pt b1),(7,.at (.arr 7 Tr) r2),(8,.eq (.map (some z4))),(9,Pt b5)]) (λz7 y6=>[.obj c 122 (aW a0 z_a0),.obj b1 94 (.agg (.pair (I y6.1) (I y6.2.1))),.obj b5 94 (.agg (.pair (I (-1:Int)) (I 0))),.inv z_a0 (bR k a0),.inv z4 (vl y6.2.2)]) (iv k a0 r2) k () (a2.1,a2.2,([]:List (fg×fg))) (λ_=>rfl) h (SE.fin [3,0,1,4,2] ⟨rfl,rfl,rfl,rfl,rfl,trivial⟩ rfl) (λn z7 y6 h=>?_)
 unfold iv at h
 refine LS (Z:=Unit) (α:=Int×Int×(List (fg×fg))) (λz9 x8=>[(0,Pt c),(5,Pt b1),(7,.at (.arr 7 Tr) r2),(8,.eq (.map (some z4))),(9,Pt b5)]) (λz9 x8=>[.obj c 122 (aW a0 z_a0),.obj b1 94 (.agg (.pair (I x8.1) (I x8.2.1))),.obj b5 94 (.agg (.pair (I (-1:Int)) (I 0))),.inv z_a0 (bR k a0),.inv z4 (vl x8.2.2)]) (λe=>e=r) h (λe h=>Option.some.inj h) (λK hR h=>?_) (λz9 x8 h=>?_)
 .
  refine ai (sr (fl RQ ?_));refine fr 1 ?_;refine lo bP ?_;refine aq (nt ?_);refine aJ (Z:=Unit) (α:=Int) (λO D=>[(0,Pt c),(5,Pt b1),(7,.at (.arr 7 Tr) r2),(8,.eq (.map (some z4))),(9,Pt b5),(10,I D)]) (λO D=>[.obj c 122 (aW a0 z_a0),.obj b1 94 (.agg (.pair (I y6.1) (I y6.2.1))),.obj b5 94 (.agg (.pair (I (-1:Int)) (I 0))),.inv z_a0 (bR k a0),.inv z4 (vl y6.2.2)]) h (λK h=>?_) (λO D h=>?_)
  .refine ai (aF (λM s=>[(0,Pt c),(5,Pt b1),(7,.at (.arr 7 Tr) r2),(8,.eq (.map (some z4))),(9,Pt b5),(10,I s)]) (λM s=>[.obj c 122 (aW a0 z_a0),.obj b1 94 (.agg (.pair (I y6.1) (I y6.2.1))),.obj b5 94 (.agg (.pair (I (-1:Int)) (I 0))),.inv z_a0 (bR k a0),.inv z4 (vl y6.2.2)]) (iu k r2 y6) k () y6.2.1 (λ_=>rfl) h (SE.fin [1,0,2,3,4] ⟨rfl,rfl,rfl,rfl,rfl,rfl,trivial⟩ rfl) (λn M s h=>?_));unfold iu at h;refine bC (aJ (Z:=Unit) (α:=Bool) (λJ y=>[(0,Pt c),(5,Pt b1),(7,.at (.arr 7 Tr) r2),(8,.eq (.map (some z4))),(9,Pt b5),(10,I s),(30,.eq (.bool y))]) (λJ y=>[.obj c 122 (aW a0 z_a0),.obj b1 94 (.agg (.pair (I y6.1) (I y6.2.1))),.obj b5 94 (.agg (.pair (I (-1:Int)) (I 0))),.inv z_a0 (bR k a0),.inv z4 (vl y6.2.2)]) h (λK h=>?_) (λJ y h=>?_))
   .refine bD ?_;refine dm ?_;refine db (iq rfl) ?_;refine lY rfl rfl rfl (aP rfl) ⟨rfl,trivial⟩ (λhb=>?_) (λhb=>?_)
    .replace h:=dY (vz hb) h;refine bo rfl rfl rfl rfl rfl (aP rfl) ⟨rfl,rfl,trivial⟩ ?_;obtain⟨YD,Yd,h⟩:=aa h;refine bo rfl rfl rfl rfl rfl (eC rfl Yd) ⟨rfl,rfl,rfl,trivial⟩ ?_;refine bo rfl rfl rfl rfl rfl (av rfl EJ) ⟨rfl,rfl,trivial⟩ ?_;refine fW 1 rfl rfl rfl rfl rfl rfl (ak rfl bP iV rfl) ⟨rfl,rfl,trivial⟩ ?_;obtain⟨YC,zM,h⟩:=aa h;refine bo rfl rfl rfl rfl rfl (cK (t:=Tr) rfl ME ko zM) ⟨rfl,rfl,rfl,trivial⟩ ?_;refine df cy ?_;obtain⟨Yk,zz,h⟩:=aa h;refine gb (cK (t:=Ti) rfl E2 bP zz) ?_;refine ga (ao (t:=Ti) rfl bP rfl) ?_;refine gb (i9 rfl) ?_;refine au ?_;exact jz ((),decide (0≤Yk)) h [0,1,2,3,4]
    .replace h:=cz (vA hb) h;iterate 5 refine dg ?_
     refine df cy ?_;refine au ?_;exact jz ((),false) h [0,1,2,3,4]
   .refine cv h (λh=>?_) (λh=>?_)
    .refine sk (ai (ae (mq ?_)));obtain⟨Yj,qt,h⟩:=aa h;refine jb (eC rfl qt) ?_;refine au ?_;exact jz ((),Yj) h [0,1,2,3,4]
    .refine au ?_;exact jz ((),s) h [0,1,2,3,4]
  .refine au ?_;refine jb (iG rfl) ?_;refine nt (ci h (λh=>?_) (λh=>?_))
   .refine sr (mq ?_);refine fr 1 ?_;refine lo pQ ?_;refine fr 2 ?_;refine lo pQ ?_;refine dQ (eN (t:=bZ) (x:=(y6.1,y6.2.1)) 36 rfl (.agg (.pair .int .int)) trivial rfl) ?_;obtain⟨YS,Yf,h⟩:=aa h;refine dQ (eN (t:=bZ) (x:=((-1:Int),0)) 37 rfl (.agg (.pair .int .int)) trivial rfl) ?_;refine fr 4 ?_;refine aI rfl rfl (tg (K:=mr) (V:=mr) (t:=(y6.1,y6.2.1)) (n:=((-1:Int),0)) (l:=y6.2.2) (λ_ _ _ h=>oP h) rfl TJ nY (λ_ _ _ h=>oP h) (s5 (ap Yf)) (s4 _) s6) ⟨rfl,rfl,rfl,trivial⟩ ?_;refine nt (sr (mq ?_));refine aq (nt (rx (br (kj ?_))));refine bf (SE.fin (Γ':=[(6,_)]) [0,3,4,1,2] ⟨rfl,trivial⟩ rfl) ?_;obtain rfl:=hR _ h;exact aN z4 [.eq (.map (some z4))] 3 ⟨rfl,trivial⟩ rfl
   .refine au ?_;refine ng ?_;refine aO rfl rfl rfl (aP rfl) ⟨rfl,trivial⟩ ?_;refine aO rfl rfl rfl (aP rfl) ⟨rfl,trivial⟩ ?_;obtain⟨YB,pq,h⟩:=aa h;refine aO rfl rfl rfl (eC rfl pq) ⟨rfl,rfl,trivial⟩ ?_;obtain⟨Yi,mw,h⟩:=aa h;refine aO rfl rfl rfl (cK (t:=Tr) rfl ME ko mw) ⟨rfl,rfl,trivial⟩ ?_;refine aO rfl rfl rfl (ao (t:=Tr) rfl ko rfl) ⟨rfl,trivial⟩ ?_;refine aO rfl rfl rfl (av rfl EJ) ⟨rfl,trivial⟩ ?_;refine eZ 1 rfl rfl rfl rfl (ak rfl bP iV rfl) ⟨rfl,trivial⟩ ?_;refine aO rfl rfl rfl (aP rfl) ⟨rfl,trivial⟩ ?_;obtain⟨Yh,mt,h⟩:=aa h;refine aO rfl rfl rfl (eC rfl mt) ⟨rfl,rfl,trivial⟩ ?_;obtain⟨j,Yg,h⟩:=aa h;refine eZ 0 rfl rfl rfl rfl (ax [.tmp 39,.tmp 43,.tmp 45,.tmp 47] rfl rfl UW rfl (pG k a0 c z_a0 Yi y6.1 Yh j Yg)) ⟨rfl,rfl,rfl,rfl,trivial⟩ ?_;refine aO rfl rfl rfl (aP rfl) ⟨rfl,trivial⟩ ?_;obtain⟨u,mc,h⟩:=aa h;refine aO rfl rfl rfl (eC rfl mc) ⟨rfl,rfl,trivial⟩ ?_;refine aO rfl rfl rfl (cN [(0,.tmp 48,_),(1,.tmp 50,_)] rfl Rb AX La (fX ⟨rfl,rfl,trivial⟩) rfl) ⟨rfl,rfl,trivial⟩ ?_;refine vX (Jk 94 (.agg (.pair (I 0) (I 0)))) (λ_=>rfl) rfl rfl rfl (aV rfl AX Le) trivial ?_;refine nj 14 [true,true,true,true,true,true,true,true,true,true,true,true,true,true] [] [] [] rfl (by kernel_rfl) (by kernel_rfl) (by kernel_rfl) cy (λvs hv hB=>?_);obtain⟨w0,YQ,rfl,Yt⟩:=an hv;obtain⟨w1,YP,rfl,Ys⟩:=an Yt;obtain⟨w2,YO,rfl,Yr⟩:=an Ys;obtain⟨w3,YN,rfl,Yq⟩:=an Yr;obtain⟨w4,YM,rfl,Yp⟩:=an Yq;obtain⟨w5,YL,rfl,Yo⟩:=an Yp;obtain⟨w6,YK,rfl,Yn⟩:=an Yo;obtain⟨w7,YJ,rfl,Ym⟩:=an Yn;obtain⟨w8,YI,rfl,Yl⟩:=an Ym;obtain⟨w9,YA,rfl,gw⟩:=an Yl;obtain⟨YH,Yz,rfl,Y⟩:=an gw;obtain⟨YG,Yy,rfl,X⟩:=an Y;obtain⟨YF,Yx,rfl,U⟩:=an X;obtain⟨YE,Yw,rfl,Q⟩:=an U;obtain rfl:=jY Q;obtain⟨E,rfl⟩:=Ee hB.2.2.2.2.2.2.2.2.2.2.2.2.2.1;refine⟨[0,1,2,3,4,5],[.obj c 122 (aW a0 z_a0),.obj b1 94 (.agg (.pair (I y6.1) (I y6.2.1))),.obj b5 94 (.agg (.pair (I (-1:Int)) (I 0))),.inv z_a0 (bR k a0),.inv z4 (vl y6.2.2),.obj E 94 (.agg (.pair (I 0) (I 0)))],by kernel_rfl,by decide,?_⟩;refine lw 5 rfl ?_;refine qL rfl rfl (aD rfl pQ trivial rfl rfl) ⟨rfl,rfl,trivial⟩ (by kernel_rfl) ?_;refine uQ ?_;refine bf (SE.fin (Γ':=[(0,Pt c),(5,Pt b1),(7,.at (.arr 7 Tr) r2),(8,.eq (.map (some z4))),(9,Pt b5),(11,Pt E)]) (Δ':=[.obj E 94 (.agg (.pair (I j) (I u))),.obj c 122 (aW a0 z_a0),.obj b1 94 (.agg (.pair (I y6.1) (I y6.2.1))),.obj b5 94 (.agg (.pair (I (-1:Int)) (I 0))),.inv z_a0 (bR k a0),.inv z4 (vl y6.2.2)]) [0,1,2,3,4,5] ⟨rfl,rfl,rfl,rfl,rfl,rfl,trivial⟩ rfl) ?_;refine tn (sr (mq ?_));refine fr 2 ?_;refine lo pQ ?_;refine fr 1 ?_;refine lo pQ ?_;refine dQ (eN (t:=bZ) (x:=(y6.1,y6.2.1)) 53 rfl (.agg (.pair .int .int)) trivial rfl) ?_;obtain⟨YR,Ye,h⟩:=aa h;refine dQ (eN (t:=bZ) (x:=(j,u)) 54 rfl (.agg (.pair .int .int)) trivial rfl) ?_;refine fr 5 ?_;refine aI rfl rfl (tg (K:=mr) (V:=mr) (t:=(y6.1,y6.2.1)) (n:=(j,u)) (l:=y6.2.2) (λ_ _ _ h=>oP h) rfl TJ nY (λ_ _ _ h=>oP h) (s5 (ap Ye)) (s4 _) s6) ⟨rfl,rfl,rfl,trivial⟩ ?_
    refine nt (ae (fr 1 ?_));refine lo pQ ?_;refine fr 2 ?_;refine aI rfl rfl (aD rfl pQ trivial rfl rfl) ⟨rfl,rfl,trivial⟩ ?_;refine au ?_;exact jz ((),(j,u,Ey y6.2.2 (y6.1,y6.2.1) (j,u))) h [3,0,4,5,2]
 .
  refine aH ?_;exact jz ((),(x8.1,x8.2.1,x8.2.2)) h [0,1,2,3,4]
def lU(k:Nat)(r7:(List (gd×gd))):Nat->(Int×Int×(List Int))->Option (List Int)
 |0,_=>none
 |n+1,c=>
  (bO (Bj (c.1,c.2.1))).bind λ_=>
  if¬((o7 r7 (c.1,c.2.1) (0,0))=((-1:Int),0)) then((bO (Bj (c.1,c.2.1))).bind λ_=>
  (bO (aZ (length c.2.2+length [(o7 r7 (c.1,c.2.1) (0,0)).1]))).bind λ_=>
  (bO (Bj (c.1,c.2.1))).bind λ_=>
  lU k r7 n ((o7 r7 (c.1,c.2.1) (0,0)).1,(o7 r7 (c.1,c.2.1) (0,0)).2,c.2.2++[(o7 r7 (c.1,c.2.1) (0,0)).1])) else(some c.2.2)
def ut(k:Nat)(a0:ab)(a1:(List Int))(a2:Int):Option ((List Int)×Int):=
 (je k a0 a1 [a2] ([]:(List Int)) ([]:(List Int))).bind λr2=>
 fS r2.1 (if¬(r2.2.2=0) then(some (([]:(List Int)),r2.2.2)) else(none)) (λq3=>if¬(r2.2.2=0) then(some (([]:(List Int)),r2.2.2)) else((jr k q3 r2.2.1 a2).bind λr5=>
 if r5 < 0 then(some (([]:(List Int)),11)) else((mQ k q3 r2.2.1 (a2,r5)).bind λr7=>
 ((lU k r7 k (a2,r5,[a2])):Option ((List Int))).bind λc=>
 (lz k c).bind λe=>
 some (e,0))))
theorem Ac(k:Nat)(a0:ab)(a1:(List Int))(a2:Int)(r:(List Int)×Int)(h:ut k a0 a1 a2=some r):
 bT (d4 Tryz.prog) 20 [.rep ah a0,.rep Tl a1,I a2] [] (λ_:Unit=>(bn [.rep Tl r.1,I r.2],[])):=by
 unfold ut at h
 replace h:=aY h
 refine bT.of 64 Tryz.func20 rfl Tryz.ntmps20 rfl λS w0=>?_
 refine sr ?_
 refine bx λb1=>?_
 refine au ?_
 refine lo bB ?_
 refine au ?_
 refine ja (aX (t:=Ti) [(.tmp 19,_)] [a2] rfl rfl cX (.cons rfl .int .nil) rfl rfl) ?_
 obtain⟨r2,Y,h⟩:=aa h
 have u:=jE k a0 a1 [a2] ([]:(List Int)) ([]:(List Int)) r2 Y
 rcases hr:r2.1 with _ |q3
 .
  rw [hr] at h u;replace h:=uL h;refine aR (Δ:=[]) (F:=_) (λ_ _ _=>aj rfl _) rfl rfl (bv (N:=[(.tmp 17,.rep ah a0),(.tmp 18,.rep Tl a1),(.tmp 20,.rep Tl [a2]),(.const (.slice none 0 0),.eq (.slice none 0 0)),(.const (.slice none 0 0),.eq (.slice none 0 0))]) (bb [.tmp 17,.tmp 18,.tmp 20,.const (.slice none 0 0),.const (.slice none 0 0)] rfl rfl vv rfl u) λ_ _ _ hn=>⟨hn.1,hn.2.1,hn.2.2.1,(aE (t:=Tl) (x:=([]:(List Int))) .nil rfl rfl hn.2.2.2.1),(aE (t:=Tl) (x:=([]:(List Int))) .nil rfl rfl hn.2.2.2.2.1),trivial⟩) ⟨rfl,rfl,rfl,rfl,rfl,trivial⟩ λ_=>?_;refine au ?_;refine jb (dG rfl) ?_;refine nt (cn h (λh=>?_) (λh=>?_))
  .refine sr (mq ?_);refine cq ?_;refine aq (nt (rx ?_));refine bf (eN (t:=Tl) (x:=([]:(List Int))) 6 rfl .nil rfl rfl) ?_;cases h;exact rb
  .cases h
 .
  rw [hr] at h u;replace h:=uK h;refine aR (Δ:=[]) (F:=_) (λ_ _ _=>aj rfl _) rfl rfl (bv (N:=[(.tmp 17,.rep ah a0),(.tmp 18,.rep Tl a1),(.tmp 20,.rep Tl [a2]),(.const (.slice none 0 0),.eq (.slice none 0 0)),(.const (.slice none 0 0),.eq (.slice none 0 0))]) (bb [.tmp 17,.tmp 18,.tmp 20,.const (.slice none 0 0),.const (.slice none 0 0)] rfl rfl vv rfl u) λ_ _ _ hn=>⟨hn.1,hn.2.1,hn.2.2.1,(aE (t:=Tl) (x:=([]:(List Int))) .nil rfl rfl hn.2.2.2.1),(aE (t:=Tl) (x:=([]:(List Int))) .nil rfl rfl hn.2.2.2.2.1),trivial⟩) ⟨rfl,rfl,rfl,rfl,rfl,trivial⟩ λz4=>?_;refine au ?_;refine jb (dG rfl) ?_;refine nt (cn h (λh=>?_) (λh=>?_))
  .refine sr (mq ?_);refine cq ?_;refine aq (nt (rx ?_));refine bf (eN (t:=Tl) (x:=([]:(List Int))) 6 rfl .nil rfl rfl) ?_;cases h;exact rb
  .refine sk (sr ?_);iterate 3 refine mq ?_
   obtain⟨r5,X,h⟩:=aa h;refine fr 1 ?_;refine fr 1 ?_;refine aR (Δ:=[_,_]) (F:=_) (λ_ _ _=>aj rfl _) rfl rfl (bb [.tmp 28,.tmp 29,.tmp 30] rfl rfl U8 rfl (mO k q3 z4.1 z4.2 r2.2.1 a2 r5 X)) ⟨rfl,rfl,rfl,trivial⟩ λ_=>?_;refine au ?_;refine jb (bj rfl) ?_;refine nt (ci h (λh=>?_) (λh=>?_))
   .refine sr (cq ?_);refine cq (nt (rx ?_));refine bf (eN (t:=Tl) (x:=([]:(List Int))) 6 rfl .nil rfl rfl) ?_;cases h;exact rb
   .refine au ?_;refine jb (cN [(0,.tmp 34,_),(1,.tmp 35,_)] rfl Rb AX La (fX ⟨rfl,rfl,trivial⟩) rfl) ?_;refine aQ rfl rfl rfl (aV rfl AX Le) trivial λb6=>?_;refine aI rfl rfl (aD rfl pQ trivial rfl rfl) ⟨rfl,rfl,trivial⟩ ?_;refine au ?_;refine lo pQ ?_;obtain⟨r7,U,h⟩:=aa h;refine fr 2 ?_;refine fr 2 ?_;refine aR (Δ:=[_,_]) (F:=_) (λ_ _ _=>aj rfl _) rfl rfl (bv (N:=[(.tmp 37,.eq (.pointer (some ⟨z4.1,0,none⟩))),(.tmp 38,.eq (.int .u8 r2.2.1)),(.tmp 39,.agg (.pair (I a2) (I r5)))]) (bb [.tmp 37,.tmp 38,.tmp 39] rfl rfl Xd rfl (tw k q3 z4.1 z4.2 r2.2.1 (a2,r5) r7 U)) λ_ _ _ hn=>⟨hn.1,hn.2.1,(aE (t:=bZ) (x:=(a2,r5)) (.agg (.pair .int .int)) trivial rfl hn.2.2.1),trivial⟩) ⟨rfl,rfl,rfl,trivial⟩ λz8=>?_;refine au ?_;refine aQ rfl rfl rfl (fQ (t:=Ti) [(.tmp 41,_)] [a2] rfl rfl cX (.cons rfl .int .nil) rfl rfl) ⟨rfl,trivial⟩ λv9=>?_;refine aq (nt ?_);refine aJ (Z:=Value) (α:=(List Int)) (λj s=>[(13,.eq (.map (some z8))),(14,.eq j)]) (λj s=>[.sl j 3 Ti s,.inv z4.2 (bR k q3),.inv z8 (vl r7)]) h (λK h=>?_) (λj s h=>?_)
    .refine sr (ja (cN [(0,.const (.int .i64 (-1)),_)] rfl Rb AX La (fX ⟨rfl,trivial⟩) rfl) ?_);refine aQ rfl rfl rfl (aV rfl AX Le) trivial λmc=>?_;refine aI rfl rfl (aD rfl pQ trivial rfl rfl) ⟨rfl,rfl,trivial⟩ ?_;refine nt (ai (aF (λe c=>[(12,Pt b6),(13,.eq (.map (some z8))),(14,.eq e.1),(15,.eq (.pointer (some ⟨e.2,0,none⟩)))]) (λe c=>[.obj b6 94 (.agg (.pair (I c.1) (I c.2.1))),.sl e.1 3 Ti c.2.2,.obj e.2 94 (.agg (.pair (I (-1:Int)) (I 0))),.inv z4.2 (bR k q3),.inv z8 (vl r7)]) (lU k r7) k (v9,mc) (a2,r5,[a2]) (λ_=>rfl) h (SE.fin [5,1,0,4,2] ⟨rfl,rfl,rfl,rfl,trivial⟩ rfl) (λn e c h=>?_)));unfold lU at h;refine au ?_;refine bD ?_;refine dm ?_;refine ea 0 (ak rfl pQ (kB) rfl) ?_;obtain⟨pq,J,h⟩:=aa h;refine eb 4 (bv (N:=[(.tmp 44,.eq (.map (some z8))),(.tmp 45,.agg (.pair (I c.1) (I c.2.1)))]) (ud (K:=mr) (V:=mr) (t:=(c.1,c.2.1)) (l:=r7) (λn=>.rep bZ n) we rfl TJ (0,0) wb nY (λ_ _ _ h=>oP h) (s5 (ap J)) (s4 _) s6) λ_ _ _ hn=>⟨hn.1,(aE (t:=bZ) (x:=(c.1,c.2.1)) (.agg (.pair .int .int)) trivial rfl hn.2.1),trivial⟩) ?_;refine ea 2 (ak rfl pQ (kB) rfl) ?_;refine df cy ?_;refine dQ (eN (t:=bZ) (x:=((-1:Int),0)) 47 rfl (.agg (.pair .int .int)) trivial rfl) ?_;refine jb (Jv rfl WL rfl) ?_;refine nt (cn h (λh=>?_) (λh=>?_))
     .refine au ?_;refine ai (ae (au ?_));refine lo pQ ?_;refine dQ (eN (t:=bZ) (x:=(c.1,c.2.1)) 54 rfl (.agg (.pair .int .int)) trivial rfl) ?_;obtain⟨u16,E,h⟩:=aa h;refine fr 4 ?_;refine kb (bv (N:=[(.tmp 53,.eq (.map (some z8))),(.tmp 54,.rep bZ (c.1,c.2.1))]) (ud (K:=mr) (V:=mr) (t:=(c.1,c.2.1)) (l:=r7) (λn=>.rep bZ n) we rfl TJ (0,0) wb nY (λ_ _ _ h=>oP h) (s5 (ap E)) (s4 _) s6) λ_ _ _ hn=>⟨hn.1,hn.2.1,trivial⟩) ?_;refine ja (NK rfl X8 rfl bP (λ_=>rfl) rfl rfl rfl) ?_;refine ja (aX (t:=Ti) [(.tmp 56,_)] [(o7 r7 (c.1,c.2.1) (0,0)).1] rfl rfl cX (.cons rfl .int .nil) rfl rfl) ?_;obtain⟨mw,D,h⟩:=aa h;refine fr 2 ?_;refine cI rfl rfl rfl (bg rfl rfl cX (ap D)) ⟨rfl,rfl,trivial⟩ λO=>?_;refine aq (bp (fN (tn (bC (sr ?_)))));refine fr 3 ?_;refine lo pQ ?_;refine nt (ae (aQ rfl rfl rfl (aV rfl AX Le) trivial λgw=>?_));refine aI rfl rfl (aD rfl pQ trivial rfl rfl) ⟨rfl,rfl,trivial⟩ ?_;refine nt (ae (mq ?_));refine fr 4 ?_;refine lo pQ ?_;refine dQ (eN (t:=bZ) (x:=(c.1,c.2.1)) 50 rfl (.agg (.pair .int .int)) trivial rfl) ?_;obtain⟨mt,y,h⟩:=aa h;refine fr 4 ?_;refine kb (bv (N:=[(.tmp 49,.eq (.map (some z8))),(.tmp 50,.rep bZ (c.1,c.2.1))]) (ud (K:=mr) (V:=mr) (t:=(c.1,c.2.1)) (l:=r7) (λn=>.rep bZ n) we rfl TJ (0,0) wb nY (λ_ _ _ h=>oP h) (s5 (ap y)) (s4 _) s6) λ_ _ _ hn=>⟨hn.1,hn.2.1,trivial⟩) ?_;refine fr 1 ?_;refine aI rfl rfl (aD rfl pQ rfl rfl rfl) ⟨rfl,rfl,trivial⟩ ?_;refine nl (bf (c6 (a:=.rep bZ (o7 r7 (c.1,c.2.1) (0,0))) (a':=.agg (.pair (I ((o7 r7 (c.1,c.2.1) (0,0)).1)) (I ((o7 r7 (c.1,c.2.1) (0,0)).2)))) (AE.trans GT (AE.agg (AE.trans Dw (AE.pair AE.int AE.int))))) ?_);exact jz ((O,gw),((o7 r7 (c.1,c.2.1) (0,0)).1,(o7 r7 (c.1,c.2.1) (0,0)).2,c.2.2++[(o7 r7 (c.1,c.2.1) (0,0)).1])) h [0,4,2,5,1]
     .refine au ?_;exact jz (e.1,c.2.2) h [1,3,4]
    .refine sr (mq ?_);refine fr 2 ?_;refine aI rfl rfl (Jz rfl rfl TJ) ⟨rfl,trivial⟩ ?_;refine nt (sr (mq ?_));obtain⟨Q,M,h⟩:=aa h;refine fr 1 ?_;refine ka (ax [.tmp 61] rfl rfl Xc rfl (rT k s j Q M)) ?_;refine nt (sr (mq ?_));refine aq ?_;refine cq (nt (cC ?_));refine bf (fV [6,14,61,63] ⟨rfl,rfl,rfl,rfl,trivial⟩) ?_;cases h;exact rb
def nF(k:Nat)(a0:ab)(a1:Int)(r2:(Option ab)×(List Int)×Int)(q3:ab)(y7:(List Int)×Int):Nat->(Int×Int)->Option Int
 |0,_=>none
 |n+1,c=>
  if c.2 < (r2.2.1.length:Int) then((((aK r2.2.1 c.2).bind λr=>
  (nu k q3 r).bind λu=>
  (aK u a1).bind λl=>
  (aK l y7.2).bind λj=>
  if a0.2.2.1≤j then((ck (c.1+1)).bind λh=>
  some h) else(some c.1)):Option (Int)).bind λs=>
  (ck (c.2+1)).bind λe=>
  nF k a0 a1 r2 q3 y7 n (s,e)) else(some c.1)
def nG(k:Nat)(a0:ab)(a1:Int)(r2:(Option ab)×(List Int)×Int)(q3:ab):Nat->((List Int)×Int)->Option (List Int)
 |0,_=>none
 |n+1,y7=>
  if y7.2 < a0.1 then(((((nF k a0 a1 r2 q3 y7 k (0,0)):Option (Int)).bind λc=>
  (ck ((r2.2.1.length:Int) - c)).bind λe=>
  (bO (aZ (length y7.1+length [uC c e]))).bind λ_=>
  some (y7.1++[uC c e])):Option ((List Int))).bind λx9=>
  (ck (y7.2+1)).bind λh=>
  nG k a0 a1 r2 q3 n (x9,h)) else(some y7.1)
def wN(k:Nat)(a0:ab)(a1:Int):Option (Int×Int×Int):=
 (oz k a0 ([]:(List Int)) ([]:(List Int)) [a1]).bind λr2=>
 fS r2.1 (if¬(r2.2.2=0) then(some (0,0,r2.2.2)) else(none)) (λq3=>if¬(r2.2.2=0) then(some (0,0,r2.2.2)) else(((nG k a0 a1 r2 q3 k (([]:(List Int)),0)):Option ((List Int))).bind λx5=>
 (nz k x5).bind λc=>
 if(r2.2.1.length:Int)≤c then(some (0,0,11)) else((ib k x5 c).bind λe=>
 some (e,c,0))))
theorem BZ(k:Nat)(a0:ab)(a1:Int)(r:Int×Int×Int)(h:wN k a0 a1=some r):
 bT (d4 Tryz.prog) 21 [.rep ah a0,I a1] [] (λ_:Unit=>(bn [I r.1,I r.2.1,I r.2.2],[])):=by
 unfold wN at h
 replace h:=aY h
 refine bT.of 71 Tryz.func21 rfl Tryz.ntmps21 rfl λS w0=>?_
 refine sr ?_
 refine bx λb1=>?_
 refine au ?_
 refine lo bB ?_
 refine mq ?_
 refine ja (aX (t:=Ti) [(.tmp 18,_)] [a1] rfl rfl cX (.cons rfl .int .nil) rfl rfl) ?_
 obtain⟨r2,Yh,h⟩:=aa h
 have s:=oY k a0 ([]:(List Int)) ([]:(List Int)) [a1] r2 Yh
 rcases hr:r2.1 with _ |q3
 .
  rw [hr] at h s;replace h:=uL h;refine aR (Δ:=[]) (F:=_) (λ_ _ _=>aj rfl _) rfl rfl (bv (N:=[(.tmp 17,.rep ah a0),(.const (.slice none 0 0),.eq (.slice none 0 0)),(.const (.slice none 0 0),.eq (.slice none 0 0)),(.tmp 19,.rep Tl [a1])]) (bb [.tmp 17,.const (.slice none 0 0),.const (.slice none 0 0),.tmp 19] rfl rfl Hw rfl s) λ_ _ _ hn=>⟨hn.1,(aE (t:=Tl) (x:=([]:(List Int))) .nil rfl rfl hn.2.1),(aE (t:=Tl) (x:=([]:(List Int))) .nil rfl rfl hn.2.2.1),hn.2.2.2.1,trivial⟩) ⟨rfl,rfl,rfl,rfl,trivial⟩ λ_=>?_;refine au ?_;refine jb (dG rfl) ?_;refine nt (cn h (λh=>?_) (λh=>?_))
  .refine au ?_;cases h;exact aN () [_,_,_] 0 ⟨rfl,rfl,rfl,trivial⟩ rfl
  .cases h
 .
  rw [hr] at h s;replace h:=uK h;refine aR (Δ:=[]) (F:=_) (λ_ _ _=>aj rfl _) rfl rfl (bv (N:=[(.tmp 17,.rep ah a0),(.const (.slice none 0 0),.eq (.slice none 0 0)),(.const (.slice none 0 0),.eq (.slice none 0 0)),(.tmp 19,.rep Tl [a1])]) (bb [.tmp 17,.const (.slice none 0 0),.const (.slice none 0 0),.tmp 19] rfl rfl Hw rfl s) λ_ _ _ hn=>⟨hn.1,(aE (t:=Tl) (x:=([]:(List Int))) .nil rfl rfl hn.2.1),(aE (t:=Tl) (x:=([]:(List Int))) .nil rfl rfl hn.2.2.1),hn.2.2.2.1,trivial⟩) ⟨rfl,rfl,rfl,rfl,trivial⟩ λz4=>?_;refine au ?_;refine jb (dG rfl) ?_;refine nt (cn h (λh=>?_) (λh=>?_))
  .refine au ?_;cases h;exact aN () [_,_,_] 0 ⟨rfl,rfl,rfl,trivial⟩ rfl
  .refine sk (sr (cq (nt ?_)));refine aJ (Z:=Value) (α:=(List Int)) (λz6 x5=>[(8,.rep (.slice (.int .u8)) r2.2.1),(10,.eq z6)]) (λz6 x5=>[.sl z6 3 Ti x5,.inv z4.2 (bR k q3)]) h (λK h=>?_) (λz6 x5 h=>?_)
   .refine sr (fl ff ?_);refine fr 2 ?_;refine lo bP ?_;refine fM rfl ?_;refine nt (ai (ia (SE.nil 3 Ti) ?_));refine aF (λz8 y7=>[(1,I a1),(2,Pt b1),(7,.eq (.pointer (some ⟨z4.1,0,none⟩))),(8,.rep (.slice (.int .u8)) r2.2.1),(10,.eq z8),(28,I a0.1),(29,I y7.2)]) (λz8 y7=>[.obj b1 25 (.rep ah a0),.obj z4.1 122 (aW q3 z4.2),.sl z8 3 Ti y7.1,.inv z4.2 (bR k q3)]) (nG k a0 a1 r2 q3) k (.slice none 0 0) (([]:(List Int)),0) (λ_=>rfl) h (SE.fin [1,2,0,3] ⟨rfl,rfl,rfl,rfl,rfl,rfl,rfl,trivial⟩ rfl) (λn z8 y7 h=>?_);unfold nG at h;refine sr (jb (bj rfl) ?_);refine au ?_;refine ci h (λh=>?_) (λh=>?_)
    .refine sk (aJ (Z:=Value) (α:=(List Int)) (λe x9=>[(1,I a1),(2,Pt b1),(7,.eq (.pointer (some ⟨z4.1,0,none⟩))),(8,.rep (.slice (.int .u8)) r2.2.1),(10,.eq e),(28,I a0.1),(29,I y7.2)]) (λe x9=>[.obj b1 25 (.rep ah a0),.obj z4.1 122 (aW q3 z4.2),.sl e 3 Ti x9,.inv z4.2 (bR k q3)]) h (λK h=>?_) (λe x9 h=>?_))
     .refine ai (sr (mq ?_));refine aq (nt (sr ?_));refine cq (nt ?_);refine aJ (Z:=Unit) (α:=Int) (λE j=>[(1,I a1),(2,Pt b1),(7,.eq (.pointer (some ⟨z4.1,0,none⟩))),(8,.rep (.slice (.int .u8)) r2.2.1),(10,.eq z8),(12,I j),(28,I a0.1),(29,I y7.2)]) (λE j=>[.obj b1 25 (.rep ah a0),.obj z4.1 122 (aW q3 z4.2),.sl z8 3 Ti y7.1,.inv z4.2 (bR k q3)]) h (λK h=>?_) (λE j h=>?_)
      .refine au ?_;refine ol AM ?_;refine fM rfl ?_;refine nt (ai (aF (λD c=>[(1,I a1),(2,Pt b1),(7,.eq (.pointer (some ⟨z4.1,0,none⟩))),(8,.rep (.slice (.int .u8)) r2.2.1),(10,.eq z8),(11,I y7.2),(12,I c.1),(28,I a0.1),(29,I y7.2),(32,.rep (.slice (.int .u8)) r2.2.1),(33,I (r2.2.1.length:Int)),(34,I c.2)]) (λD c=>[.obj b1 25 (.rep ah a0),.obj z4.1 122 (aW q3 z4.2),.sl z8 3 Ti y7.1,.inv z4.2 (bR k q3)]) (nF k a0 a1 r2 q3 y7) k () (0,0) (λ_=>rfl) h (SE.fin [0,1,2,3] ⟨rfl,rfl,rfl,rfl,rfl,rfl,rfl,rfl,rfl,rfl,rfl,rfl,trivial⟩ rfl) (λn D c h=>?_)));unfold nF at h;refine sr (jb (bj rfl) ?_);refine au ?_;refine ci h (λh=>?_) (λh=>?_)
       .refine sk (aJ (Z:=Unit) (α:=Int) (λy l=>[(1,I a1),(2,Pt b1),(7,.eq (.pointer (some ⟨z4.1,0,none⟩))),(8,.rep (.slice (.int .u8)) r2.2.1),(10,.eq z8),(11,I y7.2),(12,I l),(28,I a0.1),(29,I y7.2),(32,.rep (.slice (.int .u8)) r2.2.1),(33,I (r2.2.1.length:Int)),(34,I c.2)]) (λy l=>[.obj b1 25 (.rep ah a0),.obj z4.1 122 (aW q3 z4.2),.sl z8 3 Ti y7.1,.inv z4.2 (bR k q3)]) h (λK h=>?_) (λy l h=>?_))
        .refine ai (sr ?_);obtain⟨Yd,gw,h⟩:=aa h;refine jb (aG (t:=(.int .u8)) rfl AM rO gw) ?_;refine ja (ao (t:=(.int .u8)) rfl rO rfl) ?_;refine au ?_;refine bD ?_;refine dm ?_;refine dm ?_;obtain⟨Yg,pq,h⟩:=aa h;refine To 1 3 rfl rfl (by kernel_rfl) rfl rfl rfl (bb [.tmp 38,.tmp 39] rfl rfl Hy rfl (ri k q3 z4.1 z4.2 Yd Yg pq)) ⟨rfl,rfl,trivial⟩ ?_;refine dm ?_;obtain⟨Yj,Y,h⟩:=aa h;refine db (ql (t:=Tr) rfl ME ko rfl rfl (kB) Y) ?_;refine dm ?_;obtain⟨Yi,X,h⟩:=aa h;refine db (ql (t:=Ti) rfl E2 bP rfl rfl (λ_=>rfl) X) ?_;refine da (av rfl sL) ?_;refine ea 0 (ak rfl bP iV rfl) ?_;refine df cy ?_;refine jb (i9 rfl) ?_;refine nt (ci h (λh=>?_) (λh=>?_))
         .refine ae (mq ?_);obtain⟨zM,U,h⟩:=aa h;refine jb (be rfl U) ?_;refine au ?_;exact jz ((),zM) h [0,1,2,3]
         .refine au ?_;exact jz ((),c.1) h [0,1,2,3]
        .refine ae ?_;obtain⟨zz,Q,h⟩:=aa h;refine jb (be rfl Q) ?_;refine au ?_;exact jz ((),(l,zz)) h [0,1,2,3]
       .refine au ?_;exact jz ((),c.1) h [0,1,2,3]
      .refine ae (au ?_);refine ol AM ?_;refine mq ?_;obtain⟨J,O,h⟩:=aa h;refine jb (eC rfl O) ?_;refine jb (Jw rfl rfl) ?_;refine ja (aX (t:=Ti) [(.tmp 57,_)] [uC j J] rfl rfl cX (.cons rfl .int .nil) rfl rfl) ?_;obtain⟨Yk,mc,h⟩:=aa h;refine fr 2 ?_;refine cI rfl rfl rfl (bg rfl rfl cX (ap mc)) ⟨rfl,rfl,trivial⟩ λYe=>?_;refine au ?_;exact jz (Ye,y7.1++[uC j J]) h [1,2,0,3]
     .refine ae ?_;obtain⟨qt,M,h⟩:=aa h;refine jb (be rfl M) ?_;refine au ?_;exact jz (e,(x9,qt)) h [0,1,2,3]
    .refine au ?_;exact jz (z8,y7.1) h [2,3]
   .refine au ?_;obtain⟨u,mw,h⟩:=aa h;refine ka (jB (N:=[(.tmp 61,.eq z6)]) (ax [.tmp 61] rfl rfl U7 rfl (pT k x5 u mw)) (λ_ _ _ hv hn=>⟨(lend hn.1 hv),trivial⟩) (λ_=>⟨rfl,oL⟩)) ?_;refine au ?_;refine ol AM ?_;refine jb (i9 rfl) ?_;refine nt (ci h (λh=>?_) (λh=>?_))
    .refine au ?_;cases h;exact aN () [_,_,_] 0 ⟨rfl,rfl,rfl,trivial⟩ rfl
    .refine au ?_;obtain⟨Yf,mt,h⟩:=aa h;refine kb (jB (N:=[(.tmp 67,.eq z6),(.tmp 68,I u)]) (ax [.tmp 67,.tmp 68] rfl rfl U6 rfl (oa k x5 u Yf mt)) (λ_ _ _ hv hn=>⟨(lend hn.1 hv),hn.2.1,trivial⟩) (λ_=>⟨rfl,oL⟩)) ?_;refine au ?_;cases h;exact aN () [_,_,_] 0 ⟨rfl,rfl,rfl,trivial⟩ rfl
def kN(k:Nat)(a1:Int)(a2:Int)(y4:(List (List (List Int)))×Int)(h:(List Int)):Nat->((List Int)×Int)->Option (List Int)
 |0,_=>none
 |n+1,c=>
  if c.2 < (h.length:Int) then((((aK h c.2).bind λe=>
  ((if y4.2 < a1 then(some true) else((fD k a2 e).bind λs=>
  some (!s))):Option (Bool)).bind λl=>
  if l=true then((bO (aZ (length c.1+length [e]))).bind λ_=>
  some (c.1++[e])) else(some c.1)):Option ((List Int))).bind λr=>
  (ck (c.2+1)).bind λj=>
  kN k a1 a2 y4 h n (r,j)) else(some c.1)
def kO(k:Nat)(a1:Int)(a2:Int)(y4:(List (List (List Int)))×Int)(x8:(List (List Int))):Nat->((List (List Int))×Int)->Option (List (List Int))
 |0,_=>none
 |n+1,c=>
  if c.2 < (x8.length:Int) then((((aK x8 c.2).bind λj=>
  ((kN k a1 a2 y4 j k (([]:(List Int)),0)):Option ((List Int))).bind λe=>
  (bO (aZ (length c.1+length [e]))).bind λ_=>
  some (c.1++[e])):Option ((List (List Int)))).bind λl=>
  (ck (c.2+1)).bind λh=>
  kO k a1 a2 y4 x8 n (l,h)) else(some c.1)
def kP(k:Nat)(a0:ab)(a1:Int)(a2:Int):Nat->((List (List (List Int)))×Int)->Option (List (List (List Int)))
 |0,_=>none
 |n+1,y4=>
  if y4.2 < (a0.2.2.2.2.1.length:Int) then((((aK a0.2.2.2.2.1 y4.2).bind λx8=>
  ((kO k a1 a2 y4 x8 k (([]:(List (List Int))),0)):Option ((List (List Int)))).bind λx9=>
  (bO (aZ (length y4.1+length [x9]))).bind λ_=>
  some (y4.1++[x9])):Option ((List (List (List Int))))).bind λx6=>
  (ck (y4.2+1)).bind λc=>
  kP k a0 a1 a2 n (x6,c)) else(some y4.1)
def oZ(k:Nat)(a0:ab)(a1:Int)(a2:Int):Option (Option ab):=
 ((kP k a0 a1 a2 k (([]:(List (List (List Int)))),0)):Option ((List (List (List Int))))).bind λx2=>
 (gK k (a0.1,a0.2.1,a0.2.2.1,a0.2.2.2.1,x2,a0.2.2.2.2.2)).bind λc=>
 fS c (some none) (λe=>some (some e))
theorem yc(k:Nat)(a0:ab)(a1:Int)(a2:Int)(r:(Option ab))(h:oZ k a0 a1 a2=some r):
 cT Tryz.prog 52 [.rep ah a0,I a1,.eq (.int .u8 a2)] [] (λz:Nat×Nat=>(bn [ND r z.1],NC r λq=>sW q z.1 z.2 k)):=by
 unfold oZ at h
 replace h:=aY h
 refine cT.of 69 Tryz.func52 rfl Tryz.ntmps52 rfl λS w0=>?_
 refine sr ?_
 refine bx λb1=>?_
 refine au ?_
 refine fl co ?_
 refine lo fp ?_
 refine mq ?_
 refine ja (qj [.tmp 19] [] [(.int .u8 a2)] [] rfl rfl rfl) ?_
 refine au ?_
 refine fl co ?_
 refine aI rfl rfl (aD rfl fp rfl rfl rfl) ⟨rfl,rfl,trivial⟩ ?_
 refine nt ?_
 refine aJ (Z:=Value) (α:=(List (List (List Int)))) (λz3 x2=>[(3,Pt b1)]) (λz3 x2=>[.obj b1 25 (.agg (.pair (I a0.1) (.pair (I a0.2.1) (.pair (I a0.2.2.1) (.pair (I a0.2.2.2.1) (.pair (.eq z3) (Rs aA a0.2.2.2.2.2))))))),.sl z3 45 (.slice Tl) x2]) h (λK h=>?_) (λz3 x2 h=>?_)
 .
  refine au ?_;refine ol pJ ?_;refine fM rfl ?_;refine nt (ai (ia (SE.nil 45 (.slice Tl)) ?_));refine cJ 1 rfl ?_;refine ia (c6 (a:=.agg (.pair (.rep Ti a0.1) (.pair (.rep Ti a0.2.1) (.pair (.rep Ti a0.2.2.1) (.pair (.rep Ti a0.2.2.2.1) (.pair (.eq (.slice none 0 0)) (Rs aA a0.2.2.2.2.2))))))) (a':=.agg (.pair (I a0.1) (.pair (I a0.2.1) (.pair (I a0.2.2.1) (.pair (I a0.2.2.2.1) (.pair (.eq (.slice none 0 0)) (Rs aA a0.2.2.2.2.2))))))) (AE.agg (AE.pair AE.int (AE.pair AE.int (AE.pair AE.int (AE.pair AE.int AE.rfl)))))) ?_;refine aF (λz5 y4=>[(1,I a1),(3,Pt b1),(8,.eq (.func (.func 79) #[(.int .u8 a2)] #[])),(22,.rep (.slice (.slice Tl)) a0.2.2.2.2.1),(23,I (a0.2.2.2.2.1.length:Int)),(24,I y4.2)]) (λz5 y4=>[.obj b1 25 (.agg (.pair (I a0.1) (.pair (I a0.2.1) (.pair (I a0.2.2.1) (.pair (I a0.2.2.2.1) (.pair (.eq z5) (Rs aA a0.2.2.2.2.2))))))),.sl z5 45 (.slice Tl) y4.1]) (kP k a0 a1 a2) k (.slice none 0 0) (([]:(List (List (List Int)))),0) (λ_=>rfl) h (SE.fin [0,1] ⟨rfl,rfl,rfl,rfl,rfl,rfl,trivial⟩ rfl) (λn z5 y4 h=>?_);unfold kP at h;refine sr (jb (bj rfl) ?_);refine au ?_;refine ci h (λh=>?_) (λh=>?_)
  .refine sk (aJ (Z:=Value) (α:=(List (List (List Int)))) (λz7 x6=>[(1,I a1),(3,Pt b1),(8,.eq (.func (.func 79) #[(.int .u8 a2)] #[])),(22,.rep (.slice (.slice Tl)) a0.2.2.2.2.1),(23,I (a0.2.2.2.2.1.length:Int)),(24,I y4.2)]) (λz7 x6=>[.obj b1 25 (.agg (.pair (I a0.1) (.pair (I a0.2.1) (.pair (I a0.2.2.1) (.pair (I a0.2.2.2.1) (.pair (.eq z7) (Rs aA a0.2.2.2.2.2))))))),.sl z7 45 (.slice Tl) x6]) h (λK h=>?_) (λz7 x6 h=>?_))
   .refine ai (au ?_);obtain⟨x8,Yp,h⟩:=aa h;refine jb (aG (t:=(.slice Tl)) rfl pJ kT Yp) ?_;refine ja (ao (t:=(.slice Tl)) rfl kT rfl) ?_;refine aq ?_;refine aq (nt (sr ?_));refine cq (nt ?_);refine aJ (Z:=Value) (α:=(List (List Int))) (λQ x9=>[(1,I a1),(3,Pt b1),(8,.eq (.func (.func 79) #[(.int .u8 a2)] #[])),(11,.eq Q),(22,.rep (.slice (.slice Tl)) a0.2.2.2.2.1),(23,I (a0.2.2.2.2.1.length:Int)),(24,I y4.2)]) (λQ x9=>[.obj b1 25 (.agg (.pair (I a0.1) (.pair (I a0.2.1) (.pair (I a0.2.2.1) (.pair (I a0.2.2.2.1) (.pair (.eq z5) (Rs aA a0.2.2.2.2.2))))))),.sl z5 45 (.slice Tl) y4.1,.sl Q 28 Tl x9]) h (λK h=>?_) (λQ x9 h=>?_)
    .refine au ?_;refine ol nR ?_;refine fM rfl ?_;refine nt (ai (ia (SE.nil 28 Tl) ?_));refine aF (λe c=>[(1,I a1),(3,Pt b1),(8,.eq (.func (.func 79) #[(.int .u8 a2)] #[])),(9,I y4.2),(11,.eq e),(22,.rep (.slice (.slice Tl)) a0.2.2.2.2.1),(23,I (a0.2.2.2.2.1.length:Int)),(24,I y4.2),(29,.rep (.slice Tl) x8),(30,I (x8.length:Int)),(31,I c.2)]) (λe c=>[.obj b1 25 (.agg (.pair (I a0.1) (.pair (I a0.2.1) (.pair (I a0.2.2.1) (.pair (I a0.2.2.2.1) (.pair (.eq z5) (Rs aA a0.2.2.2.2.2))))))),.sl z5 45 (.slice Tl) y4.1,.sl e 28 Tl c.1]) (kO k a1 a2 y4 x8) k (.slice none 0 0) (([]:(List (List Int))),0) (λ_=>rfl) h (SE.fin [1,2,0] ⟨rfl,rfl,rfl,rfl,rfl,rfl,rfl,rfl,rfl,rfl,rfl,trivial⟩ rfl) (λn e c h=>?_);unfold kO at h;refine sr (jb (bj rfl) ?_);refine au ?_;refine ci h (λh=>?_) (λh=>?_)
     .refine sk (aJ (Z:=Value) (α:=(List (List Int))) (λE X=>[(1,I a1),(3,Pt b1),(8,.eq (.func (.func 79) #[(.int .u8 a2)] #[])),(9,I y4.2),(11,.eq E),(22,.rep (.slice (.slice Tl)) a0.2.2.2.2.1),(23,I (a0.2.2.2.2.1.length:Int)),(24,I y4.2),(29,.rep (.slice Tl) x8),(30,I (x8.length:Int)),(31,I c.2)]) (λE X=>[.obj b1 25 (.agg (.pair (I a0.1) (.pair (I a0.2.1) (.pair (I a0.2.2.1) (.pair (I a0.2.2.2.1) (.pair (.eq z5) (Rs aA a0.2.2.2.2.2))))))),.sl z5 45 (.slice Tl) y4.1,.sl E 28 Tl X]) h (λK h=>?_) (λE X h=>?_))
      .refine ai (sr ?_);obtain⟨u,Yd,h⟩:=aa h;refine jb (aG (t:=Tl) rfl nR eB Yd) ?_;refine ja (ao (t:=Tl) rfl eB rfl) ?_;refine aq (nt (sr ?_));refine cq (nt ?_);refine aJ (Z:=Value) (α:=(List Int)) (λO M=>[(1,I a1),(3,Pt b1),(8,.eq (.func (.func 79) #[(.int .u8 a2)] #[])),(9,I y4.2),(11,.eq e),(14,.eq O),(22,.rep (.slice (.slice Tl)) a0.2.2.2.2.1),(23,I (a0.2.2.2.2.1.length:Int)),(24,I y4.2),(29,.rep (.slice Tl) x8),(30,I (x8.length:Int)),(31,I c.2)]) (λO M=>[.obj b1 25 (.agg (.pair (I a0.1) (.pair (I a0.2.1) (.pair (I a0.2.2.1) (.pair (I a0.2.2.2.1) (.pair (.eq z5) (Rs aA a0.2.2.2.2.2))))))),.sl z5 45 (.slice Tl) y4.1,.sl e 28 Tl c.1,.sl O 3 Ti M]) h (λK h=>?_) (λO M h=>?_)
       .refine au ?_;refine ol gX ?_;refine fM rfl ?_;refine nt (ai (ia (SE.nil 3 Ti) ?_));refine aF (λl j=>[(1,I a1),(3,Pt b1),(8,.eq (.func (.func 79) #[(.int .u8 a2)] #[])),(9,I y4.2),(11,.eq e),(14,.eq l),(22,.rep (.slice (.slice Tl)) a0.2.2.2.2.1),(23,I (a0.2.2.2.2.1.length:Int)),(24,I y4.2),(29,.rep (.slice Tl) x8),(30,I (x8.length:Int)),(31,I c.2),(35,.rep Tl u),(36,I (u.length:Int)),(37,I j.2)]) (λl j=>[.obj b1 25 (.agg (.pair (I a0.1) (.pair (I a0.2.1) (.pair (I a0.2.2.1) (.pair (I a0.2.2.2.1) (.pair (.eq z5) (Rs aA a0.2.2.2.2.2))))))),.sl z5 45 (.slice Tl) y4.1,.sl e 28 Tl c.1,.sl l 3 Ti j.1]) (kN k a1 a2 y4 u) k (.slice none 0 0) (([]:(List Int)),0) (λ_=>rfl) h (SE.fin [1,2,3,0] ⟨rfl,rfl,rfl,rfl,rfl,rfl,rfl,rfl,rfl,rfl,rfl,rfl,rfl,rfl,rfl,trivial⟩ rfl) (λn l j h=>?_);unfold kN at h;refine sr (jb (bj rfl) ?_);refine au ?_;refine ci h (λh=>?_) (λh=>?_)
        .refine sk (aJ (Z:=Value) (α:=(List Int)) (λD U=>[(1,I a1),(3,Pt b1),(8,.eq (.func (.func 79) #[(.int .u8 a2)] #[])),(9,I y4.2),(11,.eq e),(14,.eq D),(22,.rep (.slice (.slice Tl)) a0.2.2.2.2.1),(23,I (a0.2.2.2.2.1.length:Int)),(24,I y4.2),(29,.rep (.slice Tl) x8),(30,I (x8.length:Int)),(31,I c.2),(35,.rep Tl u),(36,I (u.length:Int)),(37,I j.2)]) (λD U=>[.obj b1 25 (.agg (.pair (I a0.1) (.pair (I a0.2.1) (.pair (I a0.2.2.1) (.pair (I a0.2.2.2.1) (.pair (.eq z5) (Rs aA a0.2.2.2.2.2))))))),.sl z5 45 (.slice Tl) y4.1,.sl e 28 Tl c.1,.sl D 3 Ti U]) h (λK h=>?_) (λD U h=>?_))
         .refine ai (sr ?_);obtain⟨J,zM,h⟩:=aa h;refine jb (aG (t:=Ti) rfl gX bP zM) ?_;refine ja (ao (t:=Ti) rfl bP rfl) ?_;refine aq (nt ?_);refine aJ (Z:=Unit) (α:=Bool) (λmc gw=>[(1,I a1),(3,Pt b1),(8,.eq (.func (.func 79) #[(.int .u8 a2)] #[])),(9,I y4.2),(11,.eq e),(14,.eq l),(16,I J),(22,.rep (.slice (.slice Tl)) a0.2.2.2.2.1),(23,I (a0.2.2.2.2.1.length:Int)),(24,I y4.2),(29,.rep (.slice Tl) x8),(30,I (x8.length:Int)),(31,I c.2),(35,.rep Tl u),(36,I (u.length:Int)),(37,I j.2),(49,.eq (.bool gw))]) (λmc gw=>[.obj b1 25 (.agg (.pair (I a0.1) (.pair (I a0.2.1) (.pair (I a0.2.2.1) (.pair (I a0.2.2.2.1) (.pair (.eq z5) (Rs aA a0.2.2.2.2.2))))))),.sl z5 45 (.slice Tl) y4.1,.sl e 28 Tl c.1,.sl l 3 Ti j.1]) h (λK h=>?_) (λmc gw h=>?_)
          .refine ae (au ?_);refine jb (bj rfl) ?_;refine mq ?_;refine bV (s:=44) rfl (λhb=>?_) (λhb=>?_)
           .replace h:=dY (vz hb) h;refine au ?_;exact jz ((),true) h [0,1,2,3]
           .replace h:=cz (vA hb) h;refine au ?_;obtain⟨mw,Yi,h⟩:=aa h;refine gb (vK (fs:=[(.int .u8 a2)]) (cs:=[]) (ags:=[I J]) [.tmp 46] rfl rfl KQ rfl (iH k a2 J mw Yi)) ?_;refine ga (eQ rfl) ?_;refine au ?_;exact jz ((), !mw) h [0,1,2,3]
          .refine cv h (λh=>?_) (λh=>?_)
           .refine ae (au ?_);refine ja (aX (t:=Ti) [(.tmp 51,_)] [J] rfl rfl cX (.cons rfl .int .nil) rfl rfl) ?_;obtain⟨Yr,Yg,h⟩:=aa h;refine fr 3 ?_;refine cI rfl rfl rfl (bg rfl rfl cX (ap Yg)) ⟨rfl,rfl,trivial⟩ λYo=>?_;refine au ?_;exact jz (Yo,j.1++[J]) h [1,2,3,0]
           .refine au ?_;exact jz (l,j.1) h [0,1,2,3]
         .refine ae ?_;obtain⟨Yl,zz,h⟩:=aa h;refine jb (be rfl zz) ?_;refine au ?_;exact jz (D,(U,Yl)) h [0,1,2,3]
        .refine au ?_;exact jz (l,j.1) h [0,1,2,3]
       .refine ae ?_;iterate 2 refine mq ?_
        refine fr 3 ?_;refine dQ (fV [14,56] ⟨rfl,rfl,trivial⟩) ?_;refine ja (aX (t:=Tl) [(.tmp 56,_)] [M] rfl rfl kU (.cons rfl .rep .nil) rfl rfl) ?_;obtain⟨Yq,Yf,h⟩:=aa h;refine fr 2 ?_;refine cI rfl rfl rfl (bg rfl rfl kU (ap Yf)) ⟨rfl,rfl,trivial⟩ λYn=>?_;refine au ?_;exact jz (Yn,c.1++[M]) h [1,2,0]
      .refine ae ?_;obtain⟨Yk,qt,h⟩:=aa h;refine jb (be rfl qt) ?_;refine au ?_;exact jz (E,(X,Yk)) h [0,1,2]
     .refine au ?_;exact jz (e,c.1) h [0,1,2]
    .refine ae (fl co ?_);refine lo fp ?_;refine mq ?_;refine fr 2 ?_;refine dQ (fV [11,62] ⟨rfl,rfl,trivial⟩) ?_;refine ja (aX (t:=(.slice Tl)) [(.tmp 62,_)] [x9] rfl rfl zx (.cons rfl .rep .nil) rfl rfl) ?_;obtain⟨u32,Ye,h⟩:=aa h;refine fr 1 ?_;refine cI rfl rfl rfl (bg rfl rfl zx (ap Ye)) ⟨rfl,rfl,trivial⟩ λYm=>?_;refine fl co ?_;refine nf λo34=>?_;refine fr 1 ?_;refine aI rfl rfl (aD rfl fp o34 rfl rfl) ⟨rfl,rfl,trivial⟩ ?_;refine au ?_;exact jz (Ym,y4.1++[x9]) h [0,1]
   .refine ae ?_;obtain⟨Yj,pq,h⟩:=aa h;refine jb (be rfl pq) ?_;refine au ?_;exact jz (z7,(x6,Yj)) h [0,1]
  .refine au ?_;exact jz (z5,y4.1) h [0,1]
 .
  refine sr (fr 1 ?_);refine dQ (gU (off:=4) [] trivial rfl rfl) ?_;refine lo bB ?_;obtain⟨mt,Yh,h⟩:=aa h;have y:=lE k (a0.1,a0.2.1,a0.2.2.1,a0.2.2.2.1,x2,a0.2.2.2.2.2) mt Yh;rcases hr:mt with _ |Ys
  .rw [hr] at h y;replace h:=uL h;refine aR (Δ:=[]) (F:=_) (λ_ _ _=>aj rfl _) rfl rfl (bv (N:=[(.tmp 67,.agg (.pair (I a0.1) (.pair (I a0.2.1) (.pair (I a0.2.2.1) (.pair (I a0.2.2.2.1) (.pair (.rep (.slice (.slice Tl)) x2) (Rs aA a0.2.2.2.2.2)))))))]) (ax [.tmp 67] rfl rfl Hz rfl y) λ_ _ _ hn=>⟨(aE (t:=ah) (x:=(a0.1,a0.2.1,a0.2.2.1,a0.2.2.2.1,x2,a0.2.2.2.2.2)) (.agg (.pair .int (.pair .int (.pair .int (.pair .int (.pair .rep .rep)))))) trivial rfl hn.1),trivial⟩) ⟨rfl,trivial⟩ λ_=>?_;refine au ?_;cases h;exact aN (0,0) [.eq (.pointer none)] 0 ⟨rfl,trivial⟩ rfl
  .rw [hr] at h y;replace h:=uK h;refine aR (Δ:=[]) (F:=_) (λ_ _ _=>aj rfl _) rfl rfl (bv (N:=[(.tmp 67,.agg (.pair (I a0.1) (.pair (I a0.2.1) (.pair (I a0.2.2.1) (.pair (I a0.2.2.2.1) (.pair (.rep (.slice (.slice Tl)) x2) (Rs aA a0.2.2.2.2.2)))))))]) (ax [.tmp 67] rfl rfl Hz rfl y) λ_ _ _ hn=>⟨(aE (t:=ah) (x:=(a0.1,a0.2.1,a0.2.2.1,a0.2.2.2.1,x2,a0.2.2.2.2.2)) (.agg (.pair .int (.pair .int (.pair .int (.pair .int (.pair .rep .rep)))))) trivial rfl hn.1),trivial⟩) ⟨rfl,trivial⟩ λY=>?_;refine au ?_;cases h;exact aN (Y.1,Y.2) [.eq (.pointer (some ⟨Y.1,0,none⟩))] 2 ⟨rfl,trivial⟩ rfl
def fF(k:Nat)(a0:ab)(r1:(List (List Int)))(y5:Int):Nat->Int->Option (Except Bool Unit)
 |0,_=>none
 |n+1,c=>
  if c < a0.1 then((((aK r1 y5).bind λs=>
  (aK s c).bind λr=>
  if r < 0 then((ck (y5+1)).bind λl=>
  (aK r1 l).bind λj=>
  (aK j c).bind λh=>
  some (decide (h=0))) else(some false)):Option (Bool)).bind λu=>
  if u=true then(some (.error true)) else((ck (c+1)).bind λe=>
  fF k a0 r1 y5 n e)) else(some (.ok ()))
def fG(k:Nat)(a0:ab)(r1:(List (List Int))):Nat->Int->Option (Except Bool Unit)
 |0,_=>none
 |n+1,y5=>
  if y5 < (a0.2.2.2.2.1.length:Int) then(bE (α:=Unit) ((ck (y5+1)).bind λx9=>
  (aK r1 x9).bind λh=>
  (aK r1 y5).bind λc=>
  (bO (zD h/\zD c)).bind λ_=>
  if h=c then(some (.ok ())) else(fF k a0 r1 y5 k 0)) (λe=>some (.error e)) λ_=>
  (ck (y5+1)).bind λj=>
  fG k a0 r1 n j) else(some (.ok ()))
def jV(k:Nat)(a0:ab)(a1:Int)(a2:Int):Option Bool:=
 (nu k a0 a1).bind λr1=>
 bE (α:=Unit) (fG k a0 r1 k a2) (some) λ_=>
 some false
theorem qq(k:Nat)(a0:ab)(c z_a0:Nat)(a1:Int)(a2:Int)(r:Bool)(h:jV k a0 a1 a2=some r):
 bT (d4 Tryz.prog) 54 [Pt c,.eq (.int .u8 a1),I a2] [.obj c 122 (aW a0 z_a0),.inv z_a0 (bR k a0)] (λ_:Unit=>(bn [.eq (.bool r)],[.obj c 122 (aW a0 z_a0),.inv z_a0 (bR k a0)])):=by
 unfold jV at h
 replace h:=aY h
 refine bT.of 56 Tryz.func54 rfl Tryz.ntmps54 rfl λS w0=>?_
 refine sr ?_
 refine cq ?_
 refine nt ?_
 refine sr ?_
 iterate 2 refine mq ?_
 obtain⟨r1,qt,h⟩:=aa h
 have zz:=ri k a0 c z_a0 a1 r1 qt
 refine fr 1 ?_
 refine fr 1 ?_
 refine aR (Δ:=[_,_]) (F:=_) (λ_ _ _=>aj rfl _) rfl rfl (bb [.tmp 10,.tmp 11] rfl rfl Hy rfl zz) ⟨rfl,rfl,trivial⟩ λ_=>?_
 refine aQ rfl rfl rfl (aV rfl Ig Lh) trivial λb2=>?_
 refine aI rfl rfl (aD rfl IP rfl rfl rfl) ⟨rfl,rfl,trivial⟩ ?_
 refine dQ (kJ (t:=(.arr 7 Tr)) (x:=r1) [7] .rep ⟨rfl,trivial⟩) ?_
 refine nt ?_
 refine cF (Z:=Unit) (α:=Unit) (λz4 x3=>[]) (λz4 x3=>[.obj c 122 (aW a0 z_a0),.inv z_a0 (bR k a0)]) (λe=>e=r) h (λe h=>Option.some.inj h) (λK hR h=>?_) (λz4 x3 h=>?_)
 .
  refine au ?_;refine ai (aF (λz6 y5=>[(0,Pt c),(7,.at (.arr 7 Tr) r1),(8,I y5)]) (λz6 y5=>[.obj c 122 (aW a0 z_a0),.inv z_a0 (bR k a0)]) (fG k a0 r1) k () a2 (λ_=>rfl) h (SE.fin [0,1] ⟨rfl,rfl,rfl,trivial⟩ rfl) (λn z6 y5 h=>?_));unfold fG at h;refine au ?_;refine ja (cY rfl) ?_;refine fl iS ?_;refine fl co ?_;refine lo fp ?_;refine ol pJ ?_;refine jb (bj rfl) ?_;refine nt (ci h (λh=>?_) (λh=>?_))
  .refine sk (cF (Z:=Unit) (α:=Unit) (λz8 x7=>[(0,Pt c),(7,.at (.arr 7 Tr) r1),(8,I y5)]) (λz8 x7=>[.obj c 122 (aW a0 z_a0),.inv z_a0 (bR k a0)]) (λe=>e=r) h (λe h=>hR e h) (λK hR h=>?_) (λz8 x7 h=>?_))
   .refine ai (au ?_);refine bD ?_;refine dm ?_;obtain⟨x9,pq,h⟩:=aa h;refine db (be rfl pq) ?_;obtain⟨Yh,gw,h⟩:=aa h;refine db (cK (t:=Tr) rfl ME ko gw) ?_;refine da (ao (t:=Tr) rfl ko rfl) ?_;refine dm ?_;obtain⟨Yg,Y,h⟩:=aa h;refine db (cK (t:=Tr) rfl ME ko Y) ?_;refine da (ao (t:=Tr) rfl ko rfl) ?_;refine df cy ?_;obtain⟨Yi,l,h⟩:=aa h;refine jb (Jy rfl (ap l).1 (ap l).2) ?_;refine nt (ci h (λh=>?_) (λh=>?_))
    .refine au ?_;exact jz ((),()) h [0,1]
    .refine au ?_;refine ja (cY rfl) ?_;refine fl iS ?_;refine fl ff ?_;refine lo bP ?_;refine fM rfl ?_;refine nt (ai (aF (λD j=>[(0,Pt c),(7,.at (.arr 7 Tr) r1),(8,I y5),(36,I a0.1),(37,I j)]) (λD j=>[.obj c 122 (aW a0 z_a0),.inv z_a0 (bR k a0)]) (fF k a0 r1 y5) k () 0 (λ_=>rfl) h (SE.fin [0,1] ⟨rfl,rfl,rfl,rfl,rfl,trivial⟩ rfl) (λn D j h=>?_)));unfold fF at h;refine sr (jb (bj rfl) ?_);refine au ?_;refine ci h (λh=>?_) (λh=>?_)
     .refine au ?_;refine ai (sr (mq ?_));refine aq (nt ?_);refine aJ (Z:=Unit) (α:=Bool) (λy u=>[(0,Pt c),(7,.at (.arr 7 Tr) r1),(8,I y5),(36,I a0.1),(37,I j),(54,.eq (.bool u))]) (λy u=>[.obj c 122 (aW a0 z_a0),.inv z_a0 (bR k a0)]) h (λK h=>?_) (λy u h=>?_)
      .refine ae (au ?_);obtain⟨Yf,X,h⟩:=aa h;refine jb (cK (t:=Tr) rfl ME ko X) ?_;obtain⟨Ye,U,h⟩:=aa h;refine jb (cK (t:=Ti) rfl E2 bP U) ?_;refine ja (ao (t:=Ti) rfl bP rfl) ?_;refine jb (bj rfl) ?_;refine mq ?_;refine bV (s:=46) rfl (λhb=>?_) (λhb=>?_)
       .replace h:=dY (vz hb) h;refine gm ?_;obtain⟨Yd,Q,h⟩:=aa h;refine gb (be rfl Q) ?_;refine gm ?_;obtain⟨zM,O,h⟩:=aa h;refine gb (cK (t:=Tr) rfl ME ko O) ?_;obtain⟨mw,M,h⟩:=aa h;refine gb (cK (t:=Ti) rfl E2 bP M) ?_;refine ga (ao (t:=Ti) rfl bP rfl) ?_;refine gb (iG rfl) ?_;refine au ?_;exact jz ((),decide (mw=0)) h [0,1]
       .replace h:=cz (vA hb) h;refine au ?_;exact jz ((),false) h [0,1]
      .refine cv h (λh=>?_) (λh=>?_)
       .refine au ?_;obtain rfl:=hR _ h;exact aN () [_] 2 ⟨rfl,trivial⟩ rfl
       .refine au ?_;refine ae ?_;obtain⟨mt,J,h⟩:=aa h;refine jb (be rfl J) ?_;refine au ?_;exact jz ((),mt) h [0,1]
     .refine au ?_;exact jz ((),()) h [0,1]
   .refine ae (mq ?_);obtain⟨mc,E,h⟩:=aa h;refine jb (be rfl E) ?_;refine au ?_;exact jz ((),mc) h [0,1]
  .refine au ?_;exact jz ((),()) h [0,1]
 .
  refine au ?_;cases h;exact aN () [_] 2 ⟨rfl,trivial⟩ rfl
def o5(k:Nat)(a0:Int)(a1:ab)(a2:Int):Option Bool:=
 (jV k a1 a0 a2).bind λr1=>
 some r1
theorem vt(k:Nat)(a0:Int)(a1:ab)(c z_a1 j:Nat)(a2:Int)(e:Nat)(r:Bool)(h:o5 k a0 a1 a2=some r):
 bT (d4 Tryz.prog) 53 [.eq (.int .u8 a0),Pt j,Pt e] [.obj c 122 (aW a1 z_a1),.inv z_a1 (bR k a1),.obj j 66 (Pt c),.obj e 3 (I a2)] (λ_:Unit=>(bn [.eq (.bool r)],[.obj c 122 (aW a1 z_a1),.inv z_a1 (bR k a1),.obj j 66 (Pt c),.obj e 3 (I a2)])):=by
 unfold o5 at h
 replace h:=aY h
 refine bT.of 9 Tryz.func53 rfl Tryz.ntmps53 rfl λS w0=>?_
 refine sr ?_
 refine cq ?_
 refine nt ?_
 refine sr ?_
 refine fr 2 ?_
 refine lo DZ ?_
 refine mq ?_
 refine fr 3 ?_
 refine lo bP ?_
 obtain⟨r1,l,h⟩:=aa h
 have n:=qq k a1 c z_a1 a0 a2 r1 l
 refine fr 3 ?_
 refine fr 3 ?_
 refine aR (Δ:=[_,_]) (F:=_) (λ_ _ _=>aj rfl _) rfl rfl (bb [.tmp 5,.tmp 6,.tmp 7] rfl rfl Xa rfl n) ⟨rfl,rfl,rfl,trivial⟩ λ_=>?_
 refine aq ?_
 refine nt ?_
 refine cC ?_
 refine bf (SE.fin (Γ':=[(4,_)]) [0,1,3,2] ⟨rfl,trivial⟩ rfl) ?_
 cases h
 exact aN () [_] 4 ⟨rfl,trivial⟩ rfl
def fq(k:Nat)(a0:(List Int))(a1_0:ab)(a1_1:Int):Nat->Int->Option (Except Int Unit)
 |0,_=>none
 |n+1,y3=>
  if y3 < (a0.length:Int) then((aK a0 y3).bind λx5=>
  (o5 k x5 a1_0 a1_1).bind λr6=>
  if r6=true then(some (.error y3)) else((ck (y3+1)).bind λx7=>
  fq k a0 a1_0 a1_1 n x7)) else(some (.ok ()))
def jO(k:Nat)(a0:(List Int))(a1_0:ab)(a1_1:Int):Option Int:=
 bE (α:=Unit) (fq k a0 a1_0 a1_1 k 0) (some) λ_=>
 some (-1:Int)
theorem pV(k:Nat)(a0:(List Int))(a1_0:ab)(b_a1_0 z_a1_0 c_a1_0:Nat)(a1_1:Int)(c_a1_1:Nat)(r:Int)(h:jO k a0 a1_0 a1_1=some r):
 bT (d4 Tryz.prog) 83 [.rep (.slice (.int .u8)) a0,.eq (.func (.func 53) #[] #[(Pv c_a1_0),(Pv c_a1_1)])] [.obj b_a1_0 122 (aW a1_0 z_a1_0),.inv z_a1_0 (bR k a1_0),.obj c_a1_0 66 (Pt b_a1_0),.obj c_a1_1 3 (I a1_1)] (λ_:Unit=>(bn [I r],[.obj b_a1_0 122 (aW a1_0 z_a1_0),.inv z_a1_0 (bR k a1_0),.obj c_a1_0 66 (Pt b_a1_0),.obj c_a1_1 3 (I a1_1)])):=by
 unfold jO at h
 replace h:=aY h
 refine bT.of 19 Tryz.func83 rfl Tryz.ntmps83 rfl λS w0=>?_
 refine sr ?_
 refine cq ?_
 refine nt ?_
 refine cF (Z:=Unit) (α:=Unit) (λz2 x1=>[]) (λz2 x1=>[.obj b_a1_0 122 (aW a1_0 z_a1_0),.inv z_a1_0 (bR k a1_0),.obj c_a1_0 66 (Pt b_a1_0),.obj c_a1_1 3 (I a1_1)]) (λe=>e=r) h (λe h=>Option.some.inj h) (λK hR h=>?_) (λz2 x1 h=>?_)
 .
  refine au ?_;refine ol AM ?_;refine fM rfl ?_;refine nt (ai (aF (λz4 y3=>[(0,.rep (.slice (.int .u8)) a0),(1,.eq (.func (.func 53) #[] #[(Pv c_a1_0),(Pv c_a1_1)])),(7,I (a0.length:Int)),(8,I y3)]) (λz4 y3=>[.obj c_a1_0 66 (Pt b_a1_0),.obj b_a1_0 122 (aW a1_0 z_a1_0),.obj c_a1_1 3 (I a1_1),.inv z_a1_0 (bR k a1_0)]) (fq k a0 a1_0 a1_1) k () 0 (λ_=>rfl) h (SE.fin [2,0,3,1] ⟨rfl,rfl,rfl,rfl,trivial⟩ rfl) (λn z4 y3 h=>?_)));unfold fq at h;refine sr (jb (bj rfl) ?_);refine au ?_;refine ci h (λh=>?_) (λh=>?_)
  .refine au ?_;refine ai (au ?_);obtain⟨x5,j,h⟩:=aa h;refine jb (aG (t:=(.int .u8)) rfl AM rO j) ?_;refine ja (ao (t:=(.int .u8)) rfl rO rfl) ?_;obtain⟨r6,l,h⟩:=aa h;refine fr 2 ?_;refine fr 1 ?_;refine fr 3 ?_;refine fr 3 ?_;refine aR (Δ:=[_,_,_,_]) (F:=_) (λ_ _ _=>aj rfl _) rfl rfl (ov (fs:=[]) (cs:=[(Pv c_a1_0),(Pv c_a1_1)]) (ags:=[.eq (.int .u8 x5)]) [.tmp 15] rfl rfl Xb rfl (vt k x5 a1_0 b_a1_0 z_a1_0 c_a1_0 a1_1 c_a1_1 r6 l)) ⟨rfl,rfl,trivial⟩ λ_=>?_;refine nt (cv h (λh=>?_) (λh=>?_))
   .refine au ?_;obtain rfl:=hR _ h;exact aN () [_] 4 ⟨rfl,trivial⟩ rfl
   .refine au ?_;refine ae ?_;obtain⟨x7,c,h⟩:=aa h;refine jb (be rfl c) ?_;refine au ?_;exact jz ((),x7) h [2,0,3,1]
  .refine au ?_;exact jz ((),()) h [1,3,0,2]
 .
  refine au ?_;cases h;exact aN () [_] 4 ⟨rfl,trivial⟩ rfl
def fu(k:Nat)(a0:(List Int))(a1_0:ab)(a1_1:Int):Option Bool:=
 (jO k a0 a1_0 a1_1).bind λr1=>
 some (decide (0≤r1))
theorem oc(k:Nat)(a0:(List Int))(a1_0:ab)(b_a1_0 z_a1_0 c_a1_0:Nat)(a1_1:Int)(c_a1_1:Nat)(r:Bool)(h:fu k a0 a1_0 a1_1=some r):
 bT (d4 Tryz.prog) 55 [.rep (.slice (.int .u8)) a0,.eq (.func (.func 53) #[] #[(Pv c_a1_0),(Pv c_a1_1)])] [.obj b_a1_0 122 (aW a1_0 z_a1_0),.inv z_a1_0 (bR k a1_0),.obj c_a1_0 66 (Pt b_a1_0),.obj c_a1_1 3 (I a1_1)] (λ_:Unit=>(bn [.eq (.bool r)],[.obj b_a1_0 122 (aW a1_0 z_a1_0),.inv z_a1_0 (bR k a1_0),.obj c_a1_0 66 (Pt b_a1_0),.obj c_a1_1 3 (I a1_1)])):=by
 unfold fu at h
 replace h:=aY h
 refine bT.of 9 Tryz.func55 rfl Tryz.ntmps55 rfl λS w0=>?_
 refine sr ?_
 refine cq ?_
 refine nt ?_
 refine sr ?_
 iterate 2 refine mq ?_
 obtain⟨r1,c,h⟩:=aa h
 have e:=pV k a0 a1_0 b_a1_0 z_a1_0 c_a1_0 a1_1 c_a1_1 r1 c
 refine fr 3 ?_
 refine fr 3 ?_
 refine fr 3 ?_
 refine fr 3 ?_
 refine aR (Δ:=[_,_,_,_]) (F:=_) (λ_ _ _=>aj rfl _) rfl rfl (bb [.tmp 5,.tmp 6] rfl rfl WU rfl e) ⟨rfl,rfl,trivial⟩ λ_=>?_
 refine jb (i9 rfl) ?_
 refine au ?_
 cases h
 exact aN () [_] 4 ⟨rfl,trivial⟩ rfl
def sB(k:Nat)(a0:ab)(a1:Int):Option ((List Int)×Int):=
 (oz k a0 ([]:(List Int)) [a1] ([]:(List Int))).bind λr3=>
 fS r3.1 (if¬(r3.2.2=0) then(some (([]:(List Int)),r3.2.2)) else(none)) (λq4=>if¬(r3.2.2=0) then(some (([]:(List Int)),r3.2.2)) else((kY k (my (λ(c:(List Int)) (e:Int)=>
  (oZ k a0 a1 e).bind λr=>
  fS r (none) (λs=>(fu k r3.2.1 s a1).bind λn=>
  if¬(n=true) then((bO (aZ (length c+length [e]))).bind λ_=>
  some (c++[e],true)) else(some (c,true))))) a0.1 (([]:(List Int)),false)).bind λh=>
 if h.2=true then(none) else((sw k h.1).bind λl=>
 (jU k l).bind λj=>
 some (j,0))))
theorem ye(k:Nat)(a0:ab)(a1:Int)(r:(List Int)×Int)(h:sB k a0 a1=some r):
 bT (d4 Tryz.prog) 22 [.rep ah a0,I a1] [] (λ_:Unit=>(bn [.rep Tl r.1,I r.2],[])):=by
 unfold sB at h
 replace h:=aY h
 refine xE 44 Tryz.func22 rfl Tryz.ntmps22 rfl λS w0=>?_
 refine sr ?_
 refine bx λb1=>?_
 refine bx λb2=>?_
 refine cq ?_
 refine cq ?_
 refine nt ?_
 refine sr ?_
 refine fr 1 ?_
 refine lo bB ?_
 refine fr 1 ?_
 refine lo bP ?_
 refine ja (aX (t:=Ti) [(.tmp 15,_)] [a1] rfl rfl cX (.cons rfl .int .nil) rfl rfl) ?_
 obtain⟨r3,zM,h⟩:=aa h
 have y:=oY k a0 ([]:(List Int)) [a1] ([]:(List Int)) r3 zM
 rcases hr:r3.1 with _ |q4
 .
  rw [hr] at h y;replace h:=uL h;refine aR (Δ:=[]) (F:=_) (λ_ _ _=>aj rfl _) rfl rfl (bv (N:=[(.tmp 14,.rep ah a0),(.const (.slice none 0 0),.eq (.slice none 0 0)),(.tmp 16,.rep Tl [a1]),(.const (.slice none 0 0),.eq (.slice none 0 0))]) (bb [.tmp 14,.const (.slice none 0 0),.tmp 16,.const (.slice none 0 0)] rfl rfl Hw rfl y) λ_ _ _ hn=>⟨hn.1,(aE (t:=Tl) (x:=([]:(List Int))) .nil rfl rfl hn.2.1),hn.2.2.1,(aE (t:=Tl) (x:=([]:(List Int))) .nil rfl rfl hn.2.2.2.1),trivial⟩) ⟨rfl,rfl,rfl,rfl,trivial⟩ λ_=>?_;refine au ?_;refine aQ rfl rfl rfl (aV rfl MH Pe) trivial λb5=>?_;refine aq ?_;refine aI rfl rfl (aD rfl zw rfl rfl rfl) ⟨rfl,rfl,trivial⟩ ?_;refine au ?_;refine jb (dG rfl) ?_;refine nt (cn h (λh=>?_) (λh=>?_))
  .refine sr (mq ?_);refine cq ?_;refine aq (nt (rx ?_));refine bf (eN (t:=Tl) (x:=([]:(List Int))) 4 rfl .nil rfl rfl) ?_;refine Do ?_;cases h;exact rb
  .cases h
 .
  rw [hr] at h y;replace h:=uK h;refine aR (Δ:=[]) (F:=_) (λ_ _ _=>aj rfl _) rfl rfl (bv (N:=[(.tmp 14,.rep ah a0),(.const (.slice none 0 0),.eq (.slice none 0 0)),(.tmp 16,.rep Tl [a1]),(.const (.slice none 0 0),.eq (.slice none 0 0))]) (bb [.tmp 14,.const (.slice none 0 0),.tmp 16,.const (.slice none 0 0)] rfl rfl Hw rfl y) λ_ _ _ hn=>⟨hn.1,(aE (t:=Tl) (x:=([]:(List Int))) .nil rfl rfl hn.2.1),hn.2.2.1,(aE (t:=Tl) (x:=([]:(List Int))) .nil rfl rfl hn.2.2.2.1),trivial⟩) ⟨rfl,rfl,rfl,rfl,trivial⟩ λz6=>?_;refine au ?_;refine aQ rfl rfl rfl (aV rfl MH Pe) trivial λb7=>?_;refine aq ?_;refine aI rfl rfl (aD rfl zw rfl rfl rfl) ⟨rfl,rfl,trivial⟩ ?_;refine au ?_;refine jb (dG rfl) ?_;refine nt (cn h (λh=>?_) (λh=>?_))
  .refine sr (mq ?_);refine cq ?_;refine aq (nt (rx ?_));refine bf (eN (t:=Tl) (x:=([]:(List Int))) 4 rfl .nil rfl rfl) ?_;refine Do ?_;cases h;exact rb
  .refine au ?_;refine aQ rfl rfl rfl (aV rfl MH Pe) trivial λb8=>?_;refine au ?_;refine fl ff ?_;refine fr 5 ?_;refine lo bP ?_;refine aQ rfl rfl rfl (ax [.tmp 25] rfl rfl U2 rfl (tz a0.1)) ⟨rfl,trivial⟩ λb9=>?_;refine nt (ai (ia (SE.nil 67 (.int .u8)) ?_));refine cJ 7 rfl ?_;refine cJ 7 rfl ?_;refine cJ 7 rfl ?_;refine cJ 7 rfl ?_;refine cJ 4 rfl ?_;refine cJ 7 rfl ?_;refine cJ 7 rfl ?_;refine cJ 7 rfl ?_;obtain⟨u,mw,h⟩:=aa h;refine pu (Δ:=[.obj b9 3 (I a0.1),.obj b1 25 (.rep ah a0),.obj b8 73 (.eq (.slice none 0 0)),.sl (.slice none 0 0) 67 (.int .u8) ([]:(List Int)),.obj b7 73 (.rep (.slice (.int .u8)) r3.2.1),.obj z6.1 122 (aW q4 z6.2),.inv z6.2 (bR k q4),.obj b2 3 (I a1)]) (F:=[]) (X:=Value) (J:=λ_=>Ov u.2) (E:=λc=>[.obj b9 3 (I a0.1),.obj b1 25 (.rep ah a0),.obj b8 73 (.eq c),.sl c 67 (.int .u8) u.1,.obj b7 73 (.rep (.slice (.int .u8)) r3.2.1),.obj z6.1 122 (aW q4 z6.2),.inv z6.2 (bR k q4),.obj b2 3 (I a1)]) (r0:=λ_=>.tup .any) rfl rfl UV (λrec hp ha hb hs hpe hN hv l=>?_) (λdl c=>rP (λhj=>?_) (λhj=>?_))
   .rcases rec with⟨st0,pe0,fn0,tm0,ps0,as0,bd0,df0⟩;dsimp only at hp ha hb hs hpe hN hv;subst hp hs hpe;have vN:AL tm0 [(2,Pt b1),(3,Pt b2),(7,Pt b7),(9,Pt b8)]:=⟨congrArg A.eq (hv 2 _ rfl).symm,congrArg A.eq (hv 3 _ rfl).symm,congrArg A.eq (hv 7 _ rfl).symm,congrArg A.eq (hv 9 _ rfl).symm,trivial⟩;refine bT.pick (M:=(d4 Tryz.prog)) [1,0,2,3,4,5,6,7,8] [1,0,2,3,4,5,6,7,8] (qw (λ(c:Value) (q:(List Int)×Bool)=>[.raw l (.loop (jQ ⟨.ready,none,fn0,tm0, #[27],as0,bd0,df0⟩ (Ov q.2))),.obj b1 25 (.rep ah a0),.obj b8 73 (.eq c),.sl c 67 (.int .u8) q.1,.obj b7 73 (.rep (.slice (.int .u8)) r3.2.1),.obj z6.1 122 (aW q4 z6.2),.inv z6.2 (bR k q4),.obj b2 3 (I a1)]) l (my (λ(n:(List Int)) (j:Int)=>
    (oZ k a0 a1 j).bind λs=>
    fS s (none) (λO=>(fu k r3.2.1 O a1).bind λD=>
    if¬(D=true) then((bO (aZ (length n+length [j]))).bind λ_=>
    some (n++[j],true)) else(some (n,true))))) k a0.1 b9 (λc q p r' h=>?_) (.slice none 0 0) (([]:(List Int)),false) u mw) rfl (λ_=>rfl) (λ_=>rfl)
    obtain⟨rq,hq,h2,rfl⟩:=rQ h;obtain⟨n,b5⟩:=q;obtain rfl:b5=false:=hq;replace h:=aY h2;obtain⟨j,hpv⟩:∃x,x=p:=⟨_,rfl⟩;subst hpv;refine YT.pick (R':=(λc:Value=>(.eq (.bool rq.2),[.raw l (.loop (jQ ⟨.ready,none,fn0,tm0, #[27],as0,bd0,df0⟩ (Ov (!rq.2)))),.obj b1 25 (.rep ah a0),.obj b8 73 (.eq c),.sl c 67 (.int .u8) rq.1,.obj b7 73 (.rep (.slice (.int .u8)) r3.2.1),.obj z6.1 122 (aW q4 z6.2),.inv z6.2 (bR k q4),.obj b2 3 (I a1)]))) [0,1,2,3,4,5,6,7] [0,1,2,3,4,5,6,7] (E0 ha hb (N:=44) (Γ:=[(2,Pt b1),(3,Pt b2),(7,Pt b7),(9,Pt b8)]) rfl hN (by decide) vN (λS w=>?_)) rfl (λ_=>rfl) (λ_=>rfl);refine ae (au ?_);refine xA rfl rfl ?_;refine ai (sr (fr 1 ?_));refine lo bB ?_;refine fr 7 ?_;refine lo bP ?_;refine mq ?_;obtain⟨s,mt,h⟩:=aa h;have e:=yc k a0 a1 j s mt;rcases hr:s with _ |O
    .rw [hr] at h e;replace h:=uL h;refine aR (Δ:=[]) (F:=_) (λ_ _ _=>aj rfl _) rfl rfl (ax [.tmp 28,.tmp 29,.tmp 30] rfl rfl U1 rfl e) ⟨rfl,rfl,rfl,trivial⟩ λ_=>?_;cases h
    .rw [hr] at h e;replace h:=uK h;refine aR (Δ:=[]) (F:=_) (λ_ _ _=>aj rfl _) rfl rfl (ax [.tmp 28,.tmp 29,.tmp 30] rfl rfl U1 rfl e) ⟨rfl,rfl,rfl,trivial⟩ λQ=>?_;refine aQ rfl rfl rfl (aV rfl Qz SK) trivial λpq=>?_;refine aI rfl rfl (aD rfl DZ rfl rfl rfl) ⟨rfl,rfl,trivial⟩ ?_;refine au ?_;refine jb (qj [] [.tmp 11,.tmp 3] [] [(Pv pq),(Pv b2)] rfl rfl rfl) ?_;refine aq (nt (sr ?_));refine fr 8 ?_;refine lo zw ?_;refine mq ?_;obtain⟨D,mc,h⟩:=aa h;refine fr 4 ?_;refine fr 2 ?_;refine fr 4 ?_;refine fr 4 ?_;refine aR (Δ:=[_,_,_,_]) (F:=_) (λ_ _ _=>aj rfl _) rfl rfl (bb [.tmp 33,.tmp 34] rfl rfl W9 rfl (oc k r3.2.1 O Q.1 Q.2 pq a1 b2 D mc)) ⟨rfl,rfl,trivial⟩ λ_=>?_;refine ja (eQ rfl) ?_;refine nt (cw h (λh=>?_) (λh=>?_))
     .refine ae (fr 7 ?_);refine lo zw ?_;refine mq ?_;refine ja (aX (t:=(.int .u8)) [(.tmp 38,_)] [j] rfl rfl Np (.cons rfl .int .nil) rfl rfl) ?_;obtain⟨Yd,Y,h⟩:=aa h;refine fr 8 ?_;refine cI rfl rfl rfl (bg rfl rfl Np (ap Y)) ⟨rfl,rfl,trivial⟩ λqt=>?_;refine nf λo22=>?_;refine fr 1 ?_;refine aI rfl rfl (aD rfl zw o22 rfl rfl) ⟨rfl,rfl,trivial⟩ ?_;refine bp (fN (aL 5 rfl ?_));refine aL 10 rfl ?_;refine aL 10 rfl ?_;refine aL 8 rfl ?_;refine aL 5 rfl ?_;refine aL 5 rfl ?_;refine aL 9 rfl ?_;refine aL 10 rfl ?_;cases h;exact mg qt 7 rfl
     .refine iU (fN (aL 3 rfl ?_));refine aL 10 rfl ?_;refine aL 10 rfl ?_;refine aL 6 rfl ?_;refine aL 10 rfl ?_;refine aL 10 rfl ?_;refine aL 9 rfl ?_;refine aL 10 rfl ?_;cases h;exact mg c 7 rfl
   .replace h:=cz (MA hj) h;refine fN (tn (sr (fr 3 ?_)));refine lo zw ?_;obtain⟨U,gw,h⟩:=aa h;refine fr 4 ?_;refine kb (jB (N:=[(.tmp 41,.eq c),(.func 57,.eq (.func (.func 57) #[] #[]))]) (ax [.tmp 41,.func 57] rfl rfl W8 rfl (yd k u.1 U gw)) (λ_ _ _ hv hn=>⟨(lend hn.1 hv),hn.2.1,trivial⟩) (λ_=>⟨rfl,oL⟩)) ?_;obtain⟨zz,Z,h⟩:=aa h;refine ja (ax [.tmp 42] rfl rfl RZ rfl (lD k U zz Z)) ?_;refine aq ?_;refine cq (nt (cC ?_));refine aL 2 rfl ?_;refine GI ?_;cases h;exact rb
   .replace h:=dY (Me hj) h;cases h
def qy(k:Nat):Option Bool:=
 (jG k ([]:(List aC))).bind λr1=>
 (sC k r1 [0]).bind λr2=>
 (jG k ([]:(List aC))).bind λr3=>
 (sD k r3).bind λr4=>
 (jG k ([]:(List aC))).bind λr5=>
 (uq k r5 2).bind λr6=>
 (jG k ([]:(List aC))).bind λr8=>
 (ut k r8 [0] 3).bind λr9=>
 (jG k ([]:(List aC))).bind λu=>
 (wN k u 2).bind λc=>
 (jG k ([]:(List aC))).bind λs=>
 (sB k s 2).bind λe=>
 ((if r2.2=0 then(if r4.2=0 then(if r6.2=0 then(if r9.2=0 then(if c.2.2=0 then(if e.2=0 then(if r6.1=(1,3) then(if c.1=2 then(if c.2.1=2 then((fR k r2.1 [[1,(-1:Int),(-1:Int),(-1:Int)],[2,0,(-1:Int),(-1:Int)],[3,1,(-1:Int),(-1:Int)],[3,2,0,(-1:Int)],[(-1:Int),3,1,0]]).bind λr=>
 if r=true then((fR k r4.1 [[0],[0,1],[1]]).bind λn=>
 if n=true then((fK k r9.1 [0,1,3]).bind λl=>
 if l=true then((fK k e.1 [1,2]).bind λj=>
 some j) else(some false)) else(some false)) else(some false)) else(some false)) else(some false)) else(some false)) else(some false)) else(some false)) else(some false)) else(some false)) else(some false)) else(some false)):Option (Bool)).bind λh=>
 some h
theorem va(k:Nat)(r:Bool)(h:qy k=some r):
 bT (d4 Tryz.prog) 5 [] [] (λ_:Unit=>(bn [.eq (.bool r)],[])):=by
 unfold qy at h
 replace h:=aY h
 refine bT.of 110 Tryz.func5 rfl Tryz.ntmps5 rfl λS w0=>?_
 refine au ?_
 obtain⟨r1,Yg,h⟩:=aa h
 have Yo:=iP k ([]:(List aC)) r1 Yg
 refine ja (bv (N:=[(.const (.slice none 0 0),.eq (.slice none 0 0))]) (ax [.const (.slice none 0 0)] rfl rfl HA rfl Yo) λ_ _ _ hn=>⟨(aE (t:=(.slice aA)) (x:=([]:(List aC))) .nil rfl rfl hn.1),trivial⟩) ?_
 refine ja (aX (t:=Ti) [(.const (.int .i64 (0)),_)] [0] rfl rfl cX (.cons rfl .int .nil) rfl rfl) ?_
 obtain⟨r2,Yf,h⟩:=aa h
 have Yn:=yf k r1 [0] r2 Yf
 refine jb (bb [.tmp 15,.tmp 16] rfl rfl Xo rfl Yn) ?_
 refine au ?_
 obtain⟨r3,Ye,h⟩:=aa h
 have Ym:=iP k ([]:(List aC)) r3 Ye
 refine ja (bv (N:=[(.const (.slice none 0 0),.eq (.slice none 0 0))]) (ax [.const (.slice none 0 0)] rfl rfl HA rfl Ym) λ_ _ _ hn=>⟨(aE (t:=(.slice aA)) (x:=([]:(List aC))) .nil rfl rfl hn.1),trivial⟩) ?_
 obtain⟨r4,Yd,h⟩:=aa h
 have Yl:=yg k r3 r4 Yd
 refine ja (bb [.tmp 21] rfl rfl Xn rfl Yl) ?_
 refine au ?_
 obtain⟨r5,zM,h⟩:=aa h
 have Yk:=iP k ([]:(List aC)) r5 zM
 refine ja (bv (N:=[(.const (.slice none 0 0),.eq (.slice none 0 0))]) (ax [.const (.slice none 0 0)] rfl rfl HA rfl Yk) λ_ _ _ hn=>⟨(aE (t:=(.slice aA)) (x:=([]:(List aC))) .nil rfl rfl hn.1),trivial⟩) ?_
 obtain⟨r6,zz,h⟩:=aa h
 have Yj:=Aa k r5 2 r6 zz
 refine jb (bb [.tmp 26,.const (.int .i64 (2))] rfl rfl Xm rfl Yj) ?_
 refine au ?_
 refine aQ rfl rfl rfl (aV rfl DG Vv) trivial λb7=>?_
 refine aI rfl rfl (aD rfl xQ rfl rfl rfl) ⟨rfl,rfl,trivial⟩ ?_
 refine au ?_
 obtain⟨r8,qt,h⟩:=aa h
 have Yi:=iP k ([]:(List aC)) r8 qt
 refine ja (bv (N:=[(.const (.slice none 0 0),.eq (.slice none 0 0))]) (ax [.const (.slice none 0 0)] rfl rfl HA rfl Yi) λ_ _ _ hn=>⟨(aE (t:=(.slice aA)) (x:=([]:(List aC))) .nil rfl rfl hn.1),trivial⟩) ?_
 refine ja (aX (t:=Ti) [(.const (.int .i64 (0)),_)] [0] rfl rfl cX (.cons rfl .int .nil) rfl rfl) ?_
 obtain⟨r9,pq,h⟩:=aa h
 have Yh:=Ac k r8 [0] 3 r9 pq
 refine jc (bb [.tmp 31,.tmp 32,.const (.int .i64 (3))] rfl rfl Xl rfl Yh) ?_
 refine au ?_
 obtain⟨u,O,h⟩:=aa h
 have Y:=iP k ([]:(List aC)) u O
 refine ja (bv (N:=[(.const (.slice none 0 0),.eq (.slice none 0 0))]) (ax [.const (.slice none 0 0)] rfl rfl HA rfl Y) λ_ _ _ hn=>⟨(aE (t:=(.slice aA)) (x:=([]:(List aC))) .nil rfl rfl hn.1),trivial⟩) ?_
 obtain⟨mw,M,h⟩:=aa h
 have X:=BZ k u 2 mw M
 refine jb (bb [.tmp 37,.const (.int .i64 (2))] rfl rfl Xk rfl X) ?_
 refine au ?_
 obtain⟨n,J,h⟩:=aa h
 have U:=iP k ([]:(List aC)) n J
 refine ja (bv (N:=[(.const (.slice none 0 0),.eq (.slice none 0 0))]) (ax [.const (.slice none 0 0)] rfl rfl HA rfl U) λ_ _ _ hn=>⟨(aE (t:=(.slice aA)) (x:=([]:(List aC))) .nil rfl rfl hn.1),trivial⟩) ?_
 obtain⟨l,I,h⟩:=aa h
 have Q:=ye k n 2 l I
 refine jb (bb [.tmp 43,.const (.int .i64 (2))] rfl rfl Xj rfl Q) ?_
 refine mq ?_
 refine xr ?_
 refine xr ?_
 refine aq ?_
 refine aq ?_
 refine nt ?_
 refine aJ (Z:=Unit) (α:=Bool) (λe c=>[(0,.eq (.bool c))]) (λe c=>[]) h (λK h=>?_) (λe c h=>?_)
 .
  refine ae (mq ?_);refine jb (iG rfl) ?_;refine mq ?_;refine bV (s:=49) rfl (λhb=>?_) (λhb=>?_)
  .replace h:=dY (vz hb) h;refine gm ?_;refine gb (iG rfl) ?_;refine pt ?_;refine mq ?_;refine bV (s:=53) rfl (λhb=>?_) (λhb=>?_)
   .replace h:=dY (vz hb) h;refine gm ?_;refine gb (iG rfl) ?_;refine pt ?_;refine mq ?_;refine bV (s:=57) rfl (λhb=>?_) (λhb=>?_)
    .replace h:=dY (vz hb) h;refine gm ?_;refine gb (iG rfl) ?_;refine pt ?_;refine mq ?_;refine bV (s:=61) rfl (λhb=>?_) (λhb=>?_)
     .replace h:=dY (vz hb) h;refine gm ?_;refine gb (iG rfl) ?_;refine pt ?_;refine mq ?_;refine bV (s:=65) rfl (λhb=>?_) (λhb=>?_)
      .replace h:=dY (vz hb) h;refine gm ?_;refine gb (iG rfl) ?_;refine pt ?_;refine mq ?_;refine bV (s:=69) rfl (λhb=>?_) (λhb=>?_)
       .replace h:=dY (vz hb) h;refine eI rfl rfl rfl rfl rfl rfl (ak rfl xQ (kB) rfl) ⟨rfl,trivial⟩ ?_;refine gb (cN [(0,.const (.int .i64 (1)),_),(1,.const (.int .i64 (3)),_)] rfl Jo DG Dh (fX ⟨rfl,rfl,trivial⟩) rfl) ?_;refine dQ (eN (t:=bZ) (x:=(1,3)) 71 rfl (.agg (.pair .int .int)) trivial rfl) ?_;refine gb (Rq rfl WM rfl) ?_;refine pt ?_;refine mq ?_;refine bV (s:=74) rfl (λhb=>?_) (λhb=>?_)
        .replace h:=dY (vz hb) h;refine gm ?_;refine gb (iG rfl) ?_;refine pt ?_;refine mq ?_;refine bV (s:=78) rfl (λhb=>?_) (λhb=>?_)
         .replace h:=dY (vz hb) h;refine gm ?_;refine gb (iG rfl) ?_;refine pt ?_;refine mq ?_;refine bV (s:=82) rfl (λhb=>?_) (λhb=>?_)
          .replace h:=dY (vz hb) h;refine gm ?_;refine nU rfl rfl rfl rfl rfl rfl (aX (t:=Ti) [(.const (.int .i64 (1)),_),(.const (.int .i64 (-1)),_),(.const (.int .i64 (-1)),_),(.const (.int .i64 (-1)),_)] [1,(-1:Int),(-1:Int),(-1:Int)] rfl rfl cX (.cons rfl .int (.cons rfl .int (.cons rfl .int (.cons rfl .int .nil)))) rfl rfl) ⟨rfl,rfl,rfl,rfl,trivial⟩ ?_;refine nU rfl rfl rfl rfl rfl rfl (aX (t:=Ti) [(.const (.int .i64 (2)),_),(.const (.int .i64 (0)),_),(.const (.int .i64 (-1)),_),(.const (.int .i64 (-1)),_)] [2,0,(-1:Int),(-1:Int)] rfl rfl cX (.cons rfl .int (.cons rfl .int (.cons rfl .int (.cons rfl .int .nil)))) rfl rfl) ⟨rfl,rfl,rfl,rfl,trivial⟩ ?_;refine nU rfl rfl rfl rfl rfl rfl (aX (t:=Ti) [(.const (.int .i64 (3)),_),(.const (.int .i64 (1)),_),(.const (.int .i64 (-1)),_),(.const (.int .i64 (-1)),_)] [3,1,(-1:Int),(-1:Int)] rfl rfl cX (.cons rfl .int (.cons rfl .int (.cons rfl .int (.cons rfl .int .nil)))) rfl rfl) ⟨rfl,rfl,rfl,rfl,trivial⟩ ?_;refine nU rfl rfl rfl rfl rfl rfl (aX (t:=Ti) [(.const (.int .i64 (3)),_),(.const (.int .i64 (2)),_),(.const (.int .i64 (0)),_),(.const (.int .i64 (-1)),_)] [3,2,0,(-1:Int)] rfl rfl cX (.cons rfl .int (.cons rfl .int (.cons rfl .int (.cons rfl .int .nil)))) rfl rfl) ⟨rfl,rfl,rfl,rfl,trivial⟩ ?_;refine nU rfl rfl rfl rfl rfl rfl (aX (t:=Ti) [(.const (.int .i64 (-1)),_),(.const (.int .i64 (3)),_),(.const (.int .i64 (1)),_),(.const (.int .i64 (0)),_)] [(-1:Int),3,1,0] rfl rfl cX (.cons rfl .int (.cons rfl .int (.cons rfl .int (.cons rfl .int .nil)))) rfl rfl) ⟨rfl,rfl,rfl,rfl,trivial⟩ ?_;refine nU rfl rfl rfl rfl rfl rfl (aX (t:=Tl) [(.tmp 84,_),(.tmp 85,_),(.tmp 86,_),(.tmp 87,_),(.tmp 88,_)] [[1,(-1:Int),(-1:Int),(-1:Int)],[2,0,(-1:Int),(-1:Int)],[3,1,(-1:Int),(-1:Int)],[3,2,0,(-1:Int)],[(-1:Int),3,1,0]] rfl rfl kU (.cons rfl .rep (.cons rfl .rep (.cons rfl .rep (.cons rfl .rep (.cons rfl .rep .nil))))) rfl rfl) ⟨rfl,rfl,rfl,rfl,rfl,trivial⟩ ?_;obtain⟨mt,F,h⟩:=aa h;refine gb (ax [.tmp 83,.tmp 89] rfl rfl R9 rfl (kF k r2.1 [[1,(-1:Int),(-1:Int),(-1:Int)],[2,0,(-1:Int),(-1:Int)],[3,1,(-1:Int),(-1:Int)],[3,2,0,(-1:Int)],[(-1:Int),3,1,0]] mt F)) ?_;refine pt ?_;refine mq ?_;refine bV (s:=92) rfl (λhb=>?_) (λhb=>?_)
           .replace h:=dY (Me hb) h;refine gm ?_;refine ga (aX (t:=Ti) [(.const (.int .i64 (0)),_)] [0] rfl rfl cX (.cons rfl .int .nil) rfl rfl) ?_;refine gb (aX (t:=Ti) [(.const (.int .i64 (0)),_),(.const (.int .i64 (1)),_)] [0,1] rfl rfl cX (.cons rfl .int (.cons rfl .int .nil)) rfl rfl) ?_;refine ga (aX (t:=Ti) [(.const (.int .i64 (1)),_)] [1] rfl rfl cX (.cons rfl .int .nil) rfl rfl) ?_;refine gc (aX (t:=Tl) [(.tmp 94,_),(.tmp 95,_),(.tmp 96,_)] [[0],[0,1],[1]] rfl rfl kU (.cons rfl .rep (.cons rfl .rep (.cons rfl .rep .nil))) rfl rfl) ?_;obtain⟨mc,E,h⟩:=aa h;refine gb (ax [.tmp 93,.tmp 97] rfl rfl R9 rfl (kF k r4.1 [[0],[0,1],[1]] mc E)) ?_;refine pt ?_;refine mq ?_;refine bV (s:=100) rfl (λhb=>?_) (λhb=>?_)
            .replace h:=dY (Me hb) h;refine gm ?_;refine gc (aX (t:=Ti) [(.const (.int .i64 (0)),_),(.const (.int .i64 (1)),_),(.const (.int .i64 (3)),_)] [0,1,3] rfl rfl cX (.cons rfl .int (.cons rfl .int (.cons rfl .int .nil))) rfl rfl) ?_;obtain⟨gw,D,h⟩:=aa h;refine gb (ax [.tmp 101,.tmp 102] rfl rfl OJ rfl (ju k r9.1 [0,1,3] gw D)) ?_;refine pt ?_;refine mq ?_;refine bV (s:=105) rfl (λhb=>?_) (λhb=>?_)
             .replace h:=dY (Me hb) h;refine gm ?_;refine gb (aX (t:=Ti) [(.const (.int .i64 (1)),_),(.const (.int .i64 (2)),_)] [1,2] rfl rfl cX (.cons rfl .int (.cons rfl .int .nil)) rfl rfl) ?_;obtain⟨j,y,h⟩:=aa h;refine gb (ax [.tmp 106,.tmp 107] rfl rfl OJ rfl (ju k l.1 [1,2] j y)) ?_;refine au ?_;exact jz ((),j) h []
             .replace h:=cz (MA hb) h;refine au ?_;exact jz ((),false) h []
            .replace h:=cz (MA hb) h;refine au ?_;exact jz ((),false) h []
           .replace h:=cz (MA hb) h;refine au ?_;exact jz ((),false) h []
          .replace h:=cz (vA hb) h;refine au ?_;exact jz ((),false) h []
         .replace h:=cz (vA hb) h;refine au ?_;exact jz ((),false) h []
        .replace h:=cz (vA hb) h;refine au ?_;exact jz ((),false) h []
       .replace h:=cz (vA hb) h;refine au ?_;exact jz ((),false) h []
      .replace h:=cz (vA hb) h;refine au ?_;exact jz ((),false) h []
     .replace h:=cz (vA hb) h;refine au ?_;exact jz ((),false) h []
    .replace h:=cz (vA hb) h;refine au ?_;exact jz ((),false) h []
   .replace h:=cz (vA hb) h;refine au ?_;exact jz ((),false) h []
  .replace h:=cz (vA hb) h;refine au ?_;exact jz ((),false) h []
 .
  refine cC ?_;cases h;exact ra
def f6(k:Nat)(r4:(List Int)×bH):Nat->((List Int)×Int×Int×Int×(List (List Int)))->Option ((List Int)×Int×Int×(List (List Int)))
 |0,_=>none
 |n+1,y7=>
  if y7.2.2.2.1 < (r4.1.length:Int) then((((eR k (y7.1,y7.2.1,y7.2.2.1) 5).bind λc=>
  if c.1=true then(some (c.2.1,c.2.2.1,c.2.2.2,y7.2.2.2.2)) else((ck ((y7.2.2.2.2.length:Int) - 1)).bind λr=>
  (bY k (c.2.1,c.2.2.1,c.2.2.2) r).bind λe=>
  (aK y7.2.2.2.2 e.1).bind λj=>
  (aK r4.1 y7.2.2.2.1).bind λh=>
  (bO (aZ (length j+length [h]))).bind λ_=>
  some (e.2.1,e.2.2.1,e.2.2.2,List.set y7.2.2.2.2 (Int.toNat e.1) (j++[h])))):Option ((List Int)×Int×Int×(List (List Int)))).bind λx9=>
  (ck (y7.2.2.2.1+1)).bind λl=>
  f6 k r4 n (x9.1,x9.2.1,x9.2.2.1,l,x9.2.2.2)) else(some (y7.1,y7.2.1,y7.2.2.1,y7.2.2.2.2))
def kZ(k:Nat)(a0:bH)(a1:Int):Option ((List (List Int))×bH):=
 (gr k (a0.1,a0.2.1,a0.2.2) 1 3).bind λr1=>
 (bO (0≤r1.1/\aZ (Int.toNat r1.1))).bind λ_=>
 (iM k (r1.2.1,r1.2.2.1,r1.2.2.2) a1).bind λr4=>
 ((f6 k r4 k (r4.2.1,r4.2.2.1,r4.2.2.2,0,List.replicate (Int.toNat r1.1) ([]:(List Int)))):Option ((List Int)×Int×Int×(List (List Int)))).bind λx5=>
 some (x5.2.2.2,(x5.1,x5.2.1,x5.2.2.1))
theorem wS(k:Nat)(a0:bH)(c:Nat)(a1:Int)(r:(List (List Int))×bH)(h:kZ k a0 a1=some r):
 cT Tryz.prog 88 [Pt c,I a1] [.obj c 61 (.agg (.pair (.rep Tl a0.1) (.pair (I a0.2.1) (.eq (.int .u64 a0.2.2)))))] (λ_:Unit=>(bn [.rep (.slice Tl) r.1],[.obj c 61 (.agg (.pair (.rep Tl r.2.1) (.pair (I r.2.2.1) (.eq (.int .u64 r.2.2.2)))))])):=by
 unfold kZ at h
 replace h:=aY h
 refine cT.of 42 Tryz.func88 rfl Tryz.ntmps88 rfl λS w0=>?_
 refine au ?_
 obtain⟨r1,Yi,h⟩:=aa h
 have Yk:=j6 k (a0.1,a0.2.1,a0.2.2) c 1 3 r1 Yi
 refine kc (ax [.tmp 9,.const (.int .i64 (1)),.const (.int .i64 (3))] rfl rfl OG rfl Yk) ?_
 obtain⟨u2,U,h⟩:=aa h
 refine aQ rfl rfl rfl (Ro (t:=.val) (d:=.slice none 0 0) rfl kU TK (ap U).1 (ap U).2) ⟨rfl,rfl,trivial⟩ λv3=>?_
 refine dQ (Ly (F:=[.obj c 61 (.agg (.pair (.rep Tl r1.2.1) (.pair (I r1.2.2.1) (.eq (.int .u64 r1.2.2.2)))))])) ?_
 refine au ?_
 obtain⟨r4,Yh,h⟩:=aa h
 have Yj:=tG k (r1.2.1,r1.2.2.1,r1.2.2.2) c a1 r4 Yh
 refine kb (ax [.tmp 12,.tmp 13] rfl rfl Vq rfl Yj) ?_
 refine aq ?_
 refine nt ?_
 refine aJ (Z:=(Value×(Nat->Value))) (α:=(List Int)×Int×Int×(List (List Int))) (λz6 x5=>[(5,.eq z6.1)]) (λz6 x5=>[.obj c 61 (.agg (.pair (.rep Tl x5.1) (.pair (I x5.2.1) (.eq (.int .u64 x5.2.2.1)))))]++zP 28 z6 x5.2.2.2) h (λK h=>?_) (λz6 x5 h=>?_)
 .
  refine au ?_;refine ai (aF (Z:=(Value×(Nat->Value))) (α:=(List Int)×Int×Int×Int×(List (List Int))) (λz8 y7=>[(0,Pt c),(5,.eq z8.1),(6,.rep Tl r4.1),(7,I y7.2.2.2.1)]) (λz8 y7=>[.obj c 61 (.agg (.pair (.rep Tl y7.1) (.pair (I y7.2.1) (.eq (.int .u64 y7.2.2.1)))))]++zP 28 z8 y7.2.2.2.2) (f6 k r4) k (v3,λ_=>.slice none 0 0) (r4.2.1,r4.2.2.1,r4.2.2.2,0,List.replicate (Int.toNat r1.1) ([]:(List Int))) (λ_=>rfl) h (gV [.obj c 61 (.agg (.pair (.rep Tl r4.2.1) (.pair (I r4.2.2.1) (.eq (.int .u64 r4.2.2.2)))))] (zP 28 (v3,λ_=>.slice none 0 0) (List.replicate (Int.toNat r1.1) ([]:(List Int)))) [0] ⟨rfl,rfl,rfl,rfl,trivial⟩ rfl) (λn z8 y7 h=>?_));unfold f6 at h;refine au ?_;refine ol gX ?_;refine jb (bj rfl) ?_;refine nt (ci h (λh=>?_) (λh=>?_))
  .refine sk (aJ (Z:=(Value×(Nat->Value))) (α:=(List Int)×Int×Int×(List (List Int))) (λy x9=>[(0,Pt c),(5,.eq y.1),(6,.rep Tl r4.1),(7,I y7.2.2.2.1)]) (λy x9=>[.obj c 61 (.agg (.pair (.rep Tl x9.1) (.pair (I x9.2.1) (.eq (.int .u64 x9.2.2.1)))))]++zP 28 y x9.2.2.2) h (λK h=>?_) (λy x9 h=>?_))
   .refine ai (au ?_);obtain⟨j,gw,h⟩:=aa h;refine kb (ax [.tmp 21,.const (.int .i64 (5))] rfl rfl OI rfl (iQ k (y7.1,y7.2.1,y7.2.2.1) c 5 j gw)) ?_;refine nt (cv h (λh=>?_) (λh=>?_))
    .refine au ?_;exact uR (z8,(j.2.1,j.2.2.1,j.2.2.2,y7.2.2.2.2)) h (gV [.obj c 61 (.agg (.pair (.rep Tl j.2.1) (.pair (I j.2.2.1) (.eq (.int .u64 j.2.2.2)))))] (zP 28 z8 y7.2.2.2.2) [0] ⟨rfl,rfl,rfl,rfl,trivial⟩ rfl)
    .refine au ?_;refine LJ (pre:=[.obj c 61 (.agg (.pair (.rep Tl j.2.1) (.pair (I j.2.2.1) (.eq (.int .u64 j.2.2.2)))))]) rfl rfl rfl rfl rfl nR ⟨rfl,trivial⟩ ?_;obtain⟨mt,Q,h⟩:=aa h;refine jb (eC rfl Q) ?_;obtain⟨e,Y,h⟩:=aa h;refine kb (ax [.tmp 23,.tmp 26] rfl rfl vy rfl (cf k (j.2.1,j.2.2.1,j.2.2.2) c mt e Y)) ?_;refine aq (nt ?_);obtain⟨x,s,h⟩:=aa h;refine ia (HV (pre:=[.obj c 61 (.agg (.pair (.rep Tl e.2.1) (.pair (I e.2.2.1) (.eq (.int .u64 e.2.2.2)))))]) (FX s).2) ?_;obtain⟨u,O,h⟩:=aa h;obtain⟨u16,X,h⟩:=aa h;refine LQ (Δ:=[.sl (z8.2 (Int.toNat e.1)) 3 Ti x,.sl z8.1 28 .val (pN z8.2 0 y7.2.2.2.2),.obj c 61 (.agg (.pair (.rep Tl e.2.1) (.pair (I e.2.2.1) (.eq (.int .u64 e.2.2.2)))))]) (F:=(pE z8.2 0 y7.2.2.2.2).eraseIdx (Int.toNat e.1)) (Z:=Value) (λi=>[(0,Pt c),(5,.eq z8.1),(6,.rep Tl r4.1),(7,I y7.2.2.2.1)]) (λi=>[.sl z8.1 28 .val (List.set (pN z8.2 0 y7.2.2.2.2) (Int.toNat e.1) i),.sl i 3 Ti (x++[u]),.obj c 61 (.agg (.pair (.rep Tl e.2.1) (.pair (I e.2.2.1) (.eq (.int .u64 e.2.2.2)))))]) (λS w=>?_) (λl=>?_)
     .refine ng ?_;refine aO rfl rfl rfl (aP rfl) ⟨rfl,trivial⟩ ?_;refine aO rfl rfl rfl (aP rfl) ⟨rfl,trivial⟩ ?_;refine aO rfl rfl rfl (aP rfl) ⟨rfl,trivial⟩ ?_;refine aO rfl rfl rfl (aP rfl) ⟨rfl,trivial⟩ ?_;refine eZ 1 rfl rfl rfl rfl (cM (t:=.val) rfl nR eB (vG s)) ⟨rfl,rfl,trivial⟩ ?_;refine eZ 1 rfl rfl rfl rfl (ig (i:=Int.toNat e.1) (off:=0) rfl eB (λ_=>rfl) rfl (dR (vG s)).2.2 rfl) ⟨rfl,trivial⟩ ?_;refine aO rfl rfl rfl (aP rfl) ⟨rfl,trivial⟩ ?_;refine aO rfl rfl rfl (aP rfl) ⟨rfl,trivial⟩ ?_;refine aO rfl rfl rfl (aG (t:=Ti) rfl gX bP O) ⟨rfl,rfl,trivial⟩ ?_;refine aO rfl rfl rfl (ao (t:=Ti) rfl bP rfl) ⟨rfl,trivial⟩ ?_;refine aO rfl rfl rfl (aX (t:=Ti) [(.tmp 37,_)] [u] rfl rfl cX (.cons rfl .int .nil) rfl rfl) ⟨rfl,trivial⟩ ?_;refine Ds 0 rfl (λv=>[.sl v 3 Ti (x++[u])]) (λ_=>rfl) rfl rfl rfl (bg rfl rfl cX (ap X)) ⟨rfl,rfl,trivial⟩ ?_;refine nj 12 [true,true,true,true,true,true,true,true,true,true,true,true] [40] [] [] rfl (by kernel_rfl) (by kernel_rfl) (by kernel_rfl) cy (λvs hv hB=>?_);obtain⟨w0,Yx,rfl,Yg⟩:=an hv;obtain⟨w1,Yw,rfl,Yf⟩:=an Yg;obtain⟨w2,Yv,rfl,Ye⟩:=an Yf;obtain⟨w3,Yu,rfl,Yd⟩:=an Ye;obtain⟨w4,Yt,rfl,zM⟩:=an Yd;obtain⟨w5,Ys,rfl,zz⟩:=an zM;obtain⟨w6,Yr,rfl,qt⟩:=an zz;obtain⟨w7,Yq,rfl,pq⟩:=an qt;obtain⟨w8,Yp,rfl,mw⟩:=an pq;obtain⟨w9,Yn,rfl,J⟩:=an mw;obtain⟨Yo,Ym,rfl,E⟩:=an J;obtain⟨l,Yl,rfl,D⟩:=an E;obtain rfl:=jY D;refine⟨[0,1,2],[.sl z8.1 28 .val (pN z8.2 0 y7.2.2.2.2),.obj c 61 (.agg (.pair (.rep Tl e.2.1) (.pair (I e.2.2.1) (.eq (.int .u64 e.2.2.2))))),.sl l 3 Ti (x++[u])],by kernel_rfl,by decide,?_⟩;refine po rfl rfl rfl rfl (cM (t:=.val) rfl nR eB (vG s)) ⟨rfl,rfl,trivial⟩ (by kernel_rfl) ?_;refine lw 2 rfl ?_;refine S7 λo18=>?_;refine lw 1 rfl ?_;refine qL rfl rfl (iD (i:=Int.toNat e.1) rfl eB rfl (o8 (vG s)) rfl (.val o18) o18) ⟨rfl,rfl,trivial⟩ (by kernel_rfl) ?_;refine uQ ?_;refine bf (SE.fin (Γ':=[(0,Pt c),(5,.eq z8.1),(6,.rep Tl r4.1),(7,I y7.2.2.2.1)]) (Δ':=[.sl z8.1 28 .val (List.set (pN z8.2 0 y7.2.2.2.2) (Int.toNat e.1) l),.sl l 3 Ti (x++[u]),.obj c 61 (.agg (.pair (.rep Tl e.2.1) (.pair (I e.2.2.1) (.eq (.int .u64 e.2.2.2)))))]) [0,1,2] ⟨rfl,rfl,rfl,rfl,trivial⟩ rfl) ?_;exact λa w st=>⟨rfl,(l),(SE.fin (Γ':=[(0,Pt c),(5,.eq z8.1),(6,.rep Tl r4.1),(7,I y7.2.2.2.1)]) (Δ':=[.sl z8.1 28 .val (List.set (pN z8.2 0 y7.2.2.2.2) (Int.toNat e.1) l),.sl l 3 Ti (x++[u]),.obj c 61 (.agg (.pair (.rep Tl e.2.1) (.pair (I e.2.2.1) (.eq (.int .u64 e.2.2.2)))))]) [0,1,2] ⟨rfl,rfl,rfl,rfl,trivial⟩ rfl) a w st⟩
     .show JN _ _ [(0,Pt c),(5,.eq z8.1),(6,.rep Tl r4.1),(7,I y7.2.2.2.1)] ([.sl z8.1 28 .val (List.set (pN z8.2 0 y7.2.2.2.2) (Int.toNat e.1) l),.sl l 3 Ti (x++[u]),.obj c 61 (.agg (.pair (.rep Tl e.2.1) (.pair (I e.2.2.1) (.eq (.int .u64 e.2.2.2)))))]++(pE z8.2 0 y7.2.2.2.2).eraseIdx (Int.toNat e.1));refine aL 1 rfl ?_;refine bf (E3 (pre:=[.obj c 61 (.agg (.pair (.rep Tl e.2.1) (.pair (I e.2.2.1) (.eq (.int .u64 e.2.2.2)))))]) (z:=z8) (i:=Int.toNat e.1) (FX s).2) ?_;refine au ?_;exact uR ((z8.1,D4 z8.2 (Int.toNat e.1) l),(e.2.1,e.2.2.1,e.2.2.2,List.set y7.2.2.2.2 (Int.toNat e.1) (x++[u]))) h (gV [.obj c 61 (.agg (.pair (.rep Tl e.2.1) (.pair (I e.2.2.1) (.eq (.int .u64 e.2.2.2)))))] (zP 28 (z8.1,D4 z8.2 (Int.toNat e.1) l) (List.set y7.2.2.2.2 (Int.toNat e.1) (x++[u]))) [0] ⟨rfl,rfl,rfl,rfl,trivial⟩ rfl)
   .refine ae (mq ?_);obtain⟨mc,M,h⟩:=aa h;refine jb (be rfl M) ?_;refine au ?_;exact uR (y,(x9.1,x9.2.1,x9.2.2.1,mc,x9.2.2.2)) h (gV [.obj c 61 (.agg (.pair (.rep Tl x9.1) (.pair (I x9.2.1) (.eq (.int .u64 x9.2.2.1)))))] (zP 28 y x9.2.2.2) [0] ⟨rfl,rfl,rfl,rfl,trivial⟩ rfl)
  .refine au ?_;exact uR (z8,(y7.1,y7.2.1,y7.2.2.1,y7.2.2.2.2)) h (gV [.obj c 61 (.agg (.pair (.rep Tl y7.1) (.pair (I y7.2.1) (.eq (.int .u64 y7.2.2.1)))))] (zP 28 z8 y7.2.2.2.2) [0] ⟨rfl,trivial⟩ rfl)
 .
  refine sr (mq ?_);refine aq (nt (cC ?_));refine bf (LA (pre:=[.obj c 61 (.agg (.pair (.rep Tl x5.1) (.pair (I x5.2.1) (.eq (.int .u64 x5.2.2.1)))))])) ?_;refine bf (fV [4,5,41] ⟨rfl,rfl,rfl,trivial⟩) ?_;cases h;exact aN () [_] 1 ⟨rfl,trivial⟩ rfl
def f7(k:Nat)(r2:Int×bH):Nat->((List Int)×Int×Int×(List (List (List Int)))×Int)->Option ((List (List (List Int)))×(List Int)×Int×Int)
 |0,_=>none
 |n+1,c=>
  if 0 < c.2.2.2.2 then(((((if 0 < (c.2.2.2.1.length:Int) then((eR k (c.1,c.2.1,c.2.2.1) 3).bind λl=>
  some (l.2.1,l.2.2.1,l.2.2.2,l.1)) else(some (c.1,c.2.1,c.2.2.1,false))):Option ((List Int)×Int×Int×Bool)).bind λe=>
  if e.2.2.2=true then((ck ((c.2.2.2.1.length:Int) - 1)).bind λx=>
  (aK c.2.2.2.1 x).bind λu=>
  (il k u).bind λr=>
  (bO (aZ (length c.2.2.2.1+length [r]))).bind λ_=>
  some (e.1,e.2.1,e.2.2.1,c.2.2.2.1++[r])) else((kZ k (e.1,e.2.1,e.2.2.1) r2.1).bind λh=>
  (bO (aZ (length c.2.2.2.1+length [h.1]))).bind λ_=>
  some (h.2.1,h.2.2.1,h.2.2.2,c.2.2.2.1++[h.1]))):Option ((List Int)×Int×Int×(List (List (List Int))))).bind λj=>
  (ck (c.2.2.2.2 - 1)).bind λs=>
  f7 k r2 n (j.1,j.2.1,j.2.2.1,j.2.2.2,s)) else(some (c.2.2.2.1,c.1,c.2.1,c.2.2.1))
def k9(k:Nat)(a0:bH)(a1:Int)(a2:Int):Option (ab×bH):=
 (gr k (a0.1,a0.2.1,a0.2.2) 1 a1).bind λr2=>
 (bY k (r2.2.1,r2.2.2.1,r2.2.2.2) 3).bind λr3=>
 (iL k (r3.2.1,r3.2.2.1,r3.2.2.2) [0,1,1,2,r3.1]).bind λr4=>
 (bY k (r4.2.1,r4.2.2.1,r4.2.2.2) 3).bind λr5=>
 (iL k (r5.2.1,r5.2.2.1,r5.2.2.2) [0,1,2,r5.1]).bind λr6=>
 (gr k (r6.2.1,r6.2.2.1,r6.2.2.2) 1 3).bind λr7=>
 (iL k (r7.2.1,r7.2.2.1,r7.2.2.2) [1,2,r7.1]).bind λr8=>
 (((gr k (r8.2.1,r8.2.2.1,r8.2.2.2) 1 a2).bind λe=>
 f7 k r2 k (e.2.1,e.2.2.1,e.2.2.2,([]:(List (List (List Int)))),e.1)):Option ((List (List (List Int)))×(List Int)×Int×Int)).bind λc=>
 some ((r2.1,r4.1,r6.1,r8.1,c.1,[]),(c.2.1,c.2.2.1,c.2.2.2))
theorem wU(k:Nat)(a0:bH)(c:Nat)(a1:Int)(a2:Int)(r:ab×bH)(h:k9 k a0 a1 a2=some r):
 cT Tryz.prog 58 [Pt c,I a1,I a2] [.obj c 61 (.agg (.pair (.rep Tl a0.1) (.pair (I a0.2.1) (.eq (.int .u64 a0.2.2)))))] (λ_:Unit=>(bn [.agg (.pair (I r.1.1) (.pair (I r.1.2.1) (.pair (I r.1.2.2.1) (.pair (I r.1.2.2.2.1) (.pair (.rep (.slice (.slice Tl)) r.1.2.2.2.2.1) (.eq (.slice none 0 0)))))))],[.obj c 61 (.agg (.pair (.rep Tl r.2.1) (.pair (I r.2.2.1) (.eq (.int .u64 r.2.2.2)))))])):=by
 unfold k9 at h
 replace h:=aY h
 refine cT.of 67 Tryz.func58 rfl Tryz.ntmps58 rfl λS w0=>?_
 refine sr ?_
 refine aQ rfl rfl rfl (aV rfl km qH) trivial λb1=>?_
 refine nt ?_
 refine sr ?_
 iterate 2 refine mq ?_
 obtain⟨r2,Yl,h⟩:=aa h
 have Ys:=j6 k (a0.1,a0.2.1,a0.2.2) c 1 a1 r2 Yl
 refine fr 1 ?_
 refine kc (ax [.tmp 10,.const (.int .i64 (1)),.tmp 11] rfl rfl OG rfl Ys) ?_
 refine au ?_
 obtain⟨r3,Yk,h⟩:=aa h
 have Yr:=cf k (r2.2.1,r2.2.2.1,r2.2.2.2) c 3 r3 Yk
 refine kb (ax [.tmp 14,.const (.int .i64 (3))] rfl rfl vy rfl Yr) ?_
 refine bU rfl (aX (t:=Ti) [(.const (.int .i64 (0)),_),(.const (.int .i64 (1)),_),(.const (.int .i64 (1)),_),(.const (.int .i64 (2)),_),(.tmp 15,_)] [0,1,1,2,r3.1] rfl rfl cX (.cons rfl .int (.cons rfl .int (.cons rfl .int (.cons rfl .int (.cons rfl .int .nil))))) rfl rfl) ⟨rfl,rfl,rfl,rfl,rfl,trivial⟩ ?_
 obtain⟨r4,Yj,h⟩:=aa h
 have Yq:=mV k (r3.2.1,r3.2.2.1,r3.2.2.2) c [0,1,1,2,r3.1] r4 Yj
 refine kb (ax [.tmp 13,.tmp 16] rfl rfl RX rfl Yq) ?_
 refine au ?_
 obtain⟨r5,Yi,h⟩:=aa h
 have Yp:=cf k (r4.2.1,r4.2.2.1,r4.2.2.2) c 3 r5 Yi
 refine kb (ax [.tmp 19,.const (.int .i64 (3))] rfl rfl vy rfl Yp) ?_
 refine bU rfl (aX (t:=Ti) [(.const (.int .i64 (0)),_),(.const (.int .i64 (1)),_),(.const (.int .i64 (2)),_),(.tmp 20,_)] [0,1,2,r5.1] rfl rfl cX (.cons rfl .int (.cons rfl .int (.cons rfl .int (.cons rfl .int .nil)))) rfl rfl) ⟨rfl,rfl,rfl,rfl,trivial⟩ ?_
 obtain⟨r6,Yh,h⟩:=aa h
 have Yo:=mV k (r5.2.1,r5.2.2.1,r5.2.2.2) c [0,1,2,r5.1] r6 Yh
 refine kb (ax [.tmp 18,.tmp 21] rfl rfl RX rfl Yo) ?_
 refine au ?_
 obtain⟨r7,Yg,h⟩:=aa h
 have Yn:=j6 k (r6.2.1,r6.2.2.1,r6.2.2.2) c 1 3 r7 Yg
 refine kc (ax [.tmp 24,.const (.int .i64 (1)),.const (.int .i64 (3))] rfl rfl OG rfl Yn) ?_
 refine jc (aX (t:=Ti) [(.const (.int .i64 (1)),_),(.const (.int .i64 (2)),_),(.tmp 25,_)] [1,2,r7.1] rfl rfl cX (.cons rfl .int (.cons rfl .int (.cons rfl .int .nil))) rfl rfl) ?_
 obtain⟨r8,Yf,h⟩:=aa h
 have Ym:=mV k (r7.2.1,r7.2.2.1,r7.2.2.2) c [1,2,r7.1] r8 Yf
 refine kb (ax [.tmp 23,.tmp 26] rfl rfl RX rfl Ym) ?_
 refine bU rfl (cN [(0,.tmp 12,_),(1,.tmp 17,_),(2,.tmp 22,_),(3,.tmp 27,_)] rfl wA km qG (fX ⟨rfl,rfl,rfl,rfl,trivial⟩) rfl) ⟨rfl,rfl,rfl,rfl,trivial⟩ ?_
 refine aQ rfl rfl rfl (aV rfl km qH) trivial λb9=>?_
 refine aI rfl rfl (aD rfl bB trivial rfl rfl) ⟨rfl,rfl,trivial⟩ ?_
 refine nt ?_
 refine aJ (Z:=Value) (α:=(List (List (List Int)))×(List Int)×Int×Int) (λJ y=>[(6,Pt b1),(7,Pt b9)]) (λJ y=>[.obj b1 25 (.agg (.pair (I 0) (.pair (I 0) (.pair (I 0) (.pair (I 0) (.pair (.eq (.slice none 0 0)) (.eq (.slice none 0 0)))))))),.obj b9 25 (.agg (.pair (I r2.1) (.pair (I r4.1) (.pair (I r6.1) (.pair (I r8.1) (.pair (.eq J) (.eq (.slice none 0 0)))))))),.sl J 45 (.slice Tl) y.1,.obj c 61 (.agg (.pair (.rep Tl y.2.1) (.pair (I y.2.2.1) (.eq (.int .u64 y.2.2.2)))))]) h (λK h=>?_) (λJ y h=>?_)
 .
  refine sr ?_;iterate 2 refine mq ?_
  obtain⟨F,pq,h⟩:=aa h;refine fr 1 ?_;refine kc (ax [.tmp 29,.const (.int .i64 (1)),.tmp 30] rfl rfl OG rfl (j6 k (r8.2.1,r8.2.2.1,r8.2.2.2) c 1 a2 F pq)) ?_;refine au ?_;refine ai (ia (SE.nil 45 (.slice Tl)) ?_);refine aF (λu e=>[(0,Pt c),(6,Pt b1),(7,Pt b9),(8,I e.2.2.2.2)]) (λu e=>[.obj c 61 (.agg (.pair (.rep Tl e.1) (.pair (I e.2.1) (.eq (.int .u64 e.2.2.1))))),.obj b1 25 (.agg (.pair (I 0) (.pair (I 0) (.pair (I 0) (.pair (I 0) (.pair (.eq (.slice none 0 0)) (.eq (.slice none 0 0)))))))),.obj b9 25 (.agg (.pair (I r2.1) (.pair (I r4.1) (.pair (I r6.1) (.pair (I r8.1) (.pair (.eq u) (.eq (.slice none 0 0)))))))),.sl u 45 (.slice Tl) e.2.2.2.1]) (f7 k r2) k (.slice none 0 0) (F.2.1,F.2.2.1,F.2.2.2,([]:(List (List (List Int)))),F.1) (λ_=>rfl) h (SE.fin [1,3,2,0] ⟨rfl,rfl,rfl,rfl,trivial⟩ rfl) (λn u e h=>?_);unfold f7 at h;refine au ?_;refine jb (iq rfl) ?_;refine nt (ci h (λh=>?_) (λh=>?_))
  .refine sk (aJ (Z:=Value) (α:=(List Int)×Int×Int×(List (List (List Int)))) (λD l=>[(0,Pt c),(6,Pt b1),(7,Pt b9),(8,I e.2.2.2.2)]) (λD l=>[.obj c 61 (.agg (.pair (.rep Tl l.1) (.pair (I l.2.1) (.eq (.int .u64 l.2.2.1))))),.obj b1 25 (.agg (.pair (I 0) (.pair (I 0) (.pair (I 0) (.pair (I 0) (.pair (.eq (.slice none 0 0)) (.eq (.slice none 0 0)))))))),.obj b9 25 (.agg (.pair (I r2.1) (.pair (I r4.1) (.pair (I r6.1) (.pair (I r8.1) (.pair (.eq D) (.eq (.slice none 0 0)))))))),.sl D 45 (.slice Tl) l.2.2.2]) h (λK h=>?_) (λD l h=>?_))
   .refine ai (au ?_);refine fl co ?_;refine fr 2 ?_;refine lo fp ?_;refine fr 3 ?_;refine ka (ou rfl rfl pJ) ?_;refine aq (nt ?_);refine aJ (Z:=Unit) (α:=(List Int)×Int×Int×Bool) (λQ j=>[(0,Pt c),(6,Pt b1),(7,Pt b9),(8,I e.2.2.2.2),(9,I (e.2.2.2.1.length:Int)),(44,.eq (.bool j.2.2.2))]) (λQ j=>[.obj c 61 (.agg (.pair (.rep Tl j.1) (.pair (I j.2.1) (.eq (.int .u64 j.2.2.1))))),.obj b1 25 (.agg (.pair (I 0) (.pair (I 0) (.pair (I 0) (.pair (I 0) (.pair (.eq (.slice none 0 0)) (.eq (.slice none 0 0)))))))),.obj b9 25 (.agg (.pair (I r2.1) (.pair (I r4.1) (.pair (I r6.1) (.pair (I r8.1) (.pair (.eq u) (.eq (.slice none 0 0)))))))),.sl u 45 (.slice Tl) e.2.2.2.1]) h (λK h=>?_) (λQ j h=>?_)
    .refine ae (mq ?_);refine jb (iq rfl) ?_;refine mq ?_;refine bV (s:=41) rfl (λhb=>?_) (λhb=>?_)
     .replace h:=dY (vz hb) h;refine gm ?_;obtain⟨E,mw,h⟩:=aa h;refine fr 2 ?_;refine eI rfl rfl rfl rfl rfl rfl (ax [.tmp 42,.const (.int .i64 (3))] rfl rfl OI rfl (iQ k (e.1,e.2.1,e.2.2.1) c 3 E mw)) ⟨rfl,rfl,trivial⟩ ?_;refine au ?_;exact jz ((),(E.2.1,E.2.2.1,E.2.2.2,E.1)) h [0,3,2,1]
     .replace h:=cz (vA hb) h;refine au ?_;exact jz ((),(e.1,e.2.1,e.2.2.1,false)) h [2,3,1,0]
    .refine cv h (λh=>?_) (λh=>?_)
     .refine bC (bD ?_);refine da (av rfl co) ?_;refine ea 2 (ak rfl fp iV rfl) ?_;refine da (av rfl co) ?_;refine ea 2 (ak rfl fp iV rfl) ?_;refine dm ?_;obtain⟨zM,X,h⟩:=aa h;refine db (eC rfl X) ?_;obtain⟨zz,M,h⟩:=aa h;refine eb 3 (cM (t:=(.slice Tl)) rfl pJ kT M) ?_;refine ea 3 (ig (i:=Int.toNat zM) (off:=0) rfl kT (λ_=>rfl) rfl (dR M).2.2 rfl) ?_;obtain⟨O,mt,h⟩:=aa h;refine da (vU (ax [.tmp 52] rfl rfl Vh rfl (oI k zz O mt))) ?_;refine da (aX (t:=(.slice Tl)) [(.tmp 53,_)] [O] rfl rfl zx (.cons rfl .rep .nil) rfl rfl) ?_;refine df cy ?_;obtain⟨Yu,gw,h⟩:=aa h;refine fr 3 ?_;refine cI rfl rfl rfl (bg rfl rfl zx (ap gw)) ⟨rfl,rfl,trivial⟩ λYe=>?_;refine fl co ?_;refine nf λo25=>?_;refine fr 3 ?_;refine aI rfl rfl (aD rfl fp o25 rfl rfl) ⟨rfl,rfl,trivial⟩ ?_;refine au ?_;exact jz (Ye,(j.1,j.2.1,j.2.2.1,e.2.2.2.1++[O])) h [2,3,0,1]
     .refine sk (bD ?_);refine da (av rfl co) ?_;refine ea 2 (ak rfl fp iV rfl) ?_;refine dm ?_;refine da (av rfl ff) ?_;refine ea 2 (ak rfl bP iV rfl) ?_;obtain⟨x,mc,h⟩:=aa h;refine GQ 0 rfl rfl rfl rfl (ax [.tmp 59,.tmp 61] rfl rfl WR rfl (wS k (j.1,j.2.1,j.2.2.1) c r2.1 x mc)) ⟨rfl,rfl,trivial⟩ ?_;refine da (aX (t:=(.slice Tl)) [(.tmp 62,_)] [x.1] rfl rfl zx (.cons rfl .rep .nil) rfl rfl) ?_;refine GR (Δ':=[.obj b1 25 (.agg (.pair (I 0) (.pair (I 0) (.pair (I 0) (.pair (I 0) (.pair (.eq (.slice none 0 0)) (.eq (.slice none 0 0)))))))),.obj b9 25 (.agg (.pair (I r2.1) (.pair (I r4.1) (.pair (I r6.1) (.pair (I r8.1) (.pair (.eq u) (.eq (.slice none 0 0)))))))),.sl u 45 (.slice Tl) e.2.2.2.1,.obj c 61 (.agg (.pair (.rep Tl x.2.1) (.pair (I x.2.2.1) (.eq (.int .u64 x.2.2.2)))))]) (by kernel_rfl) cy (by kernel_rfl) ?_;obtain⟨Yt,Y,h⟩:=aa h;refine fr 2 ?_;refine cI rfl rfl rfl (bg rfl rfl zx (ap Y)) ⟨rfl,rfl,trivial⟩ λYd=>?_;refine fl co ?_;refine nf λo29=>?_;refine fr 2 ?_;refine aI rfl rfl (aD rfl fp o29 rfl rfl) ⟨rfl,rfl,trivial⟩ ?_;refine au ?_;exact jz (Yd,(x.2.1,x.2.2.1,x.2.2.2,e.2.2.2.1++[x.1])) h [3,2,0,1]
   .refine ae (mq ?_);obtain⟨qt,U,h⟩:=aa h;refine jb (eC rfl U) ?_;refine au ?_;exact jz (D,(l.1,l.2.1,l.2.2.1,l.2.2.2,qt)) h [0,1,2,3]
  .refine au ?_;exact jz (u,(e.2.2.2.1,e.1,e.2.1,e.2.2.1)) h [1,2,3,0]
 .
  refine sr (fr 1 ?_);refine fr 2 ?_;refine dQ (gU (off:=4) [] trivial rfl rfl) ?_;refine lo bB ?_;refine fr 1 ?_;refine aI rfl rfl (aD rfl bB trivial rfl rfl) ⟨rfl,rfl,trivial⟩ ?_;refine nt (cC (bf (SE.fin (Γ':=[(6,_)]) [2,0,1] ⟨rfl,trivial⟩ rfl) ?_));cases h;exact aN () [.agg (.pair (I r2.1) (.pair (I r4.1) (.pair (I r6.1) (.pair (I r8.1) (.pair (.rep (.slice (.slice Tl)) y.1) (.eq (.slice none 0 0)))))))] 1 ⟨⟨_,_,_,_,_,rfl,(.tail _ (.head _)),bB,(kB),rfl⟩,trivial⟩ rfl
def eV(k:Nat)(r2:ab×bH):Nat->((List Int)×Int×Int×(List aC)×Int)->Option ((List aC)×(List Int)×Int×Int)
 |0,_=>none
 |n+1,y7=>
  if 0 < y7.2.2.2.2 then((jh k (y7.1,y7.2.1,y7.2.2.1) (r2.1.1,r2.1.2.1,r2.1.2.2.1,r2.1.2.2.2.1,r2.1.2.2.2.2.1,())).bind λr9=>
  (bO (aZ (length y7.2.2.2.1+length [r9.1]))).bind λ_=>
  (ck (y7.2.2.2.2 - 1)).bind λc=>
  eV k r2 n (r9.2.1,r9.2.2.1,r9.2.2.2,y7.2.2.2.1++[r9.1],c)) else(some (y7.2.2.2.1,y7.1,y7.2.1,y7.2.2.1))
def jg(k:Nat)(a0:bH)(a1:Int)(a2:Int):Option (ab×bH):=
 (k9 k (a0.1,a0.2.1,a0.2.2) a1 a2).bind λr2=>
 (((bY k (r2.2.1,r2.2.2.1,r2.2.2.2) 4).bind λr6=>
 eV k r2 k (r6.2.1,r6.2.2.1,r6.2.2.2,([]:(List aC)),r6.1)):Option ((List aC)×(List Int)×Int×Int)).bind λx4=>
 some ((r2.1.1,r2.1.2.1,r2.1.2.2.1,r2.1.2.2.2.1,r2.1.2.2.2.2.1,x4.1),(x4.2.1,x4.2.2.1,x4.2.2.2))
theorem ux(k:Nat)(a0:bH)(c:Nat)(a1:Int)(a2:Int)(r:ab×bH)(h:jg k a0 a1 a2=some r):
 cT Tryz.prog 24 [Pt c,I a1,I a2] [.obj c 61 (.agg (.pair (.rep Tl a0.1) (.pair (I a0.2.1) (.eq (.int .u64 a0.2.2)))))] (λ_:Unit=>(bn [.rep ah r.1],[.obj c 61 (.agg (.pair (.rep Tl r.2.1) (.pair (I r.2.2.1) (.eq (.int .u64 r.2.2.2)))))])):=by
 unfold jg at h
 replace h:=aY h
 refine cT.of 28 Tryz.func24 rfl Tryz.ntmps24 rfl λS w0=>?_
 refine sr ?_
 refine aQ rfl rfl rfl (aV rfl km qH) trivial λb1=>?_
 refine nt ?_
 refine sr ?_
 iterate 3 refine mq ?_
 obtain⟨r2,D,h⟩:=aa h
 have E:=wU k (a0.1,a0.2.1,a0.2.2) c a1 a2 r2 D
 refine fr 1 ?_
 refine kc (ax [.tmp 9,.tmp 10,.tmp 11] rfl rfl W7 rfl E) ?_
 refine aQ rfl rfl rfl (aV rfl km qH) trivial λb3=>?_
 refine aI rfl rfl (aD rfl bB trivial rfl rfl) ⟨rfl,rfl,trivial⟩ ?_
 refine nt ?_
 refine aJ (Z:=Value) (α:=(List aC)×(List Int)×Int×Int) (λz5 x4=>[(6,Pt b1),(7,Pt b3)]) (λz5 x4=>[.obj b1 25 (.agg (.pair (I 0) (.pair (I 0) (.pair (I 0) (.pair (I 0) (.pair (.eq (.slice none 0 0)) (.eq (.slice none 0 0)))))))),.obj b3 25 (.agg (.pair (I r2.1.1) (.pair (I r2.1.2.1) (.pair (I r2.1.2.2.1) (.pair (I r2.1.2.2.2.1) (.pair (.rep (.slice (.slice Tl)) r2.1.2.2.2.2.1) (.eq z5))))))),.sl z5 27 aA x4.1,.obj c 61 (.agg (.pair (.rep Tl x4.2.1) (.pair (I x4.2.2.1) (.eq (.int .u64 x4.2.2.2)))))]) h (λK h=>?_) (λz5 x4 h=>?_)
 .
  refine sr (mq ?_);obtain⟨r6,y,h⟩:=aa h;refine fr 1 ?_;refine kb (ax [.tmp 13,.const (.int .i64 (4))] rfl rfl vy rfl (cf k (r2.2.1,r2.2.2.1,r2.2.2.2) c 4 r6 y)) ?_;refine au ?_;refine ai (ia (SE.nil 27 aA) ?_);refine aF (λz8 y7=>[(0,Pt c),(6,Pt b1),(7,Pt b3),(8,I y7.2.2.2.2)]) (λz8 y7=>[.obj c 61 (.agg (.pair (.rep Tl y7.1) (.pair (I y7.2.1) (.eq (.int .u64 y7.2.2.1))))),.obj b1 25 (.agg (.pair (I 0) (.pair (I 0) (.pair (I 0) (.pair (I 0) (.pair (.eq (.slice none 0 0)) (.eq (.slice none 0 0)))))))),.obj b3 25 (.agg (.pair (I r2.1.1) (.pair (I r2.1.2.1) (.pair (I r2.1.2.2.1) (.pair (I r2.1.2.2.2.1) (.pair (.rep (.slice (.slice Tl)) r2.1.2.2.2.2.1) (.eq z8))))))),.sl z8 27 aA y7.2.2.2.1]) (eV k r2) k (.slice none 0 0) (r6.2.1,r6.2.2.1,r6.2.2.2,([]:(List aC)),r6.1) (λ_=>rfl) h (SE.fin [1,3,2,0] ⟨rfl,rfl,rfl,rfl,trivial⟩ rfl) (λn z8 y7 h=>?_);unfold eV at h;refine au ?_;refine jb (iq rfl) ?_;refine nt (ci h (λh=>?_) (λh=>?_))
  .refine au ?_;refine ai (bD ?_);refine da (av rfl dA) ?_;refine ea 2 (ak rfl jw iV rfl) ?_;refine dm ?_;refine ea 2 (ak rfl bB (kB) rfl) ?_;obtain⟨r9,u,h⟩:=aa h;refine GQ 0 rfl rfl rfl rfl (bv (N:=[(.tmp 21,Pt c),(.tmp 22,.agg (.pair (I r2.1.1) (.pair (I r2.1.2.1) (.pair (I r2.1.2.2.1) (.pair (I r2.1.2.2.2.1) (.pair (.rep (.slice (.slice Tl)) r2.1.2.2.2.2.1) (.eq z8)))))))]) (ax [.tmp 21,.tmp 22] rfl rfl WW rfl (uy k (y7.1,y7.2.1,y7.2.2.1) c (r2.1.1,r2.1.2.1,r2.1.2.2.1,r2.1.2.2.2.1,r2.1.2.2.2.2.1,()) r9 u)) λ_ _ _ hn=>⟨hn.1,(Pg (t:=(.pair Ti (.pair Ti (.pair Ti (.pair Ti (.pair (.slice (.slice Tl)) .ign)))))) (x:=(r2.1.1,r2.1.2.1,r2.1.2.2.1,r2.1.2.2.2.1,r2.1.2.2.2.2.1,())) (qO (dZ .int) (qO (dZ .int) (qO (dZ .int) (qO (dZ .int) (qO (dZ .rep) PY))))) hn.2.1),trivial⟩) ⟨rfl,rfl,trivial⟩ ?_;refine da (aX (t:=aA) [(.tmp 23,_)] [r9.1] rfl rfl rV (.cons rfl .rep .nil) rfl rfl) ?_;refine GR (Δ':=[.obj b1 25 (.agg (.pair (I 0) (.pair (I 0) (.pair (I 0) (.pair (I 0) (.pair (.eq (.slice none 0 0)) (.eq (.slice none 0 0)))))))),.obj b3 25 (.agg (.pair (I r2.1.1) (.pair (I r2.1.2.1) (.pair (I r2.1.2.2.1) (.pair (I r2.1.2.2.2.1) (.pair (.rep (.slice (.slice Tl)) r2.1.2.2.2.2.1) (.eq z8))))))),.sl z8 27 aA y7.2.2.2.1,.obj c 61 (.agg (.pair (.rep Tl r9.2.1) (.pair (I r9.2.2.1) (.eq (.int .u64 r9.2.2.2)))))]) (by kernel_rfl) cy (by kernel_rfl) ?_;obtain⟨F,j,h⟩:=aa h;refine fr 2 ?_;refine cI rfl rfl rfl (bg rfl rfl rV (ap j)) ⟨rfl,rfl,trivial⟩ λs=>?_;refine fl dA ?_;refine nf λo12=>?_;refine fr 2 ?_;refine aI rfl rfl (aD rfl jw o12 rfl rfl) ⟨rfl,rfl,trivial⟩ ?_;refine au ?_;refine ae (mq ?_);obtain⟨l,e,h⟩:=aa h;refine jb (eC rfl e) ?_;refine au ?_;exact jz (s,(r9.2.1,r9.2.2.1,r9.2.2.2,y7.2.2.2.1++[r9.1],l)) h [3,2,0,1]
  .refine au ?_;exact jz (z8,(y7.2.2.2.1,y7.1,y7.2.1,y7.2.2.1)) h [1,2,3,0]
 .
  refine sr (fr 1 ?_);refine fr 2 ?_;refine dQ (gU (off:=5) [] trivial rfl rfl) ?_;refine lo bB ?_;refine fr 1 ?_;refine aI rfl rfl (aD rfl bB trivial rfl rfl) ⟨rfl,rfl,trivial⟩ ?_;refine nt (cC (bf (c6 (a:=.agg (.pair (I r2.1.1) (.pair (I r2.1.2.1) (.pair (I r2.1.2.2.1) (.pair (I r2.1.2.2.2.1) (.pair (.rep (.slice (.slice Tl)) r2.1.2.2.2.2.1) (Rs aA x4.1))))))) (a':=.rep ah (r2.1.1,r2.1.2.1,r2.1.2.2.1,r2.1.2.2.2.1,r2.1.2.2.2.2.1,x4.1)) (dZ (.agg (.pair .int (.pair .int (.pair .int (.pair .int (.pair .rep .rep)))))))) ?_));refine bf (SE.fin (Γ':=[(6,_)]) [2,0,1] ⟨rfl,trivial⟩ rfl) ?_;cases h;exact aN () [.rep ah (r2.1.1,r2.1.2.1,r2.1.2.2.1,r2.1.2.2.2.1,r2.1.2.2.2.2.1,x4.1)] 1 ⟨⟨_,_,_,_,_,rfl,(.tail _ (.head _)),bB,(kB),rfl⟩,trivial⟩ rfl
def jF(k:Nat)(a0:ab)(a1:aC)(a2:bH):Option ((List ab)×bH):=
 (jg k (a2.1,a2.2.1,a2.2.2) 4 4).bind λr3=>
 (ik k r3.1).bind λr5=>
 (bO (aZ (length r5.2.2.2.2.2+length [a1]))).bind λ_=>
 some ([a0,r3.1,(r5.1,r5.2.1,r5.2.2.1,r5.2.2.2.1,r5.2.2.2.2.1,r5.2.2.2.2.2++[a1])],(r3.2.1,r3.2.2.1,r3.2.2.2))
theorem wR(k:Nat)(a0:ab)(a1:aC)(a2:bH)(c:Nat)(r:(List ab)×bH)(h:jF k a0 a1 a2=some r):
 cT Tryz.prog 7 [.rep ah a0,.rep aA a1,Pt c] [.obj c 61 (.agg (.pair (.rep Tl a2.1) (.pair (I a2.2.1) (.eq (.int .u64 a2.2.2)))))] (λ_:Unit=>(bn [Rs ah r.1],[.obj c 61 (.agg (.pair (.rep Tl r.2.1) (.pair (I r.2.2.1) (.eq (.int .u64 r.2.2.2)))))])):=by
 unfold jF at h
 replace h:=aY h
 refine cT.of 23 Tryz.func7 rfl Tryz.ntmps7 rfl λS w0=>?_
 refine sr ?_
 refine bx λb1=>?_
 refine bx λb2=>?_
 refine cq ?_
 refine nt ?_
 refine sr ?_
 refine mq ?_
 obtain⟨r3,l,h⟩:=aa h
 have s:=ux k (a2.1,a2.2.1,a2.2.2) c 4 4 r3 l
 refine fr 2 ?_
 refine kc (ax [.tmp 9,.const (.int .i64 (4)),.const (.int .i64 (4))] rfl rfl Xi rfl s) ?_
 refine aQ rfl rfl rfl (aV rfl km qH) trivial λb4=>?_
 refine aI rfl rfl (aD rfl bB rfl rfl rfl) ⟨rfl,rfl,trivial⟩ ?_
 refine au ?_
 refine lo bB ?_
 obtain⟨r5,j,h⟩:=aa h
 have n:=oH k r3.1 r5 j
 refine aQ rfl rfl rfl (ax [.tmp 11] rfl rfl XN rfl n) ⟨rfl,trivial⟩ λv6=>?_
 refine aQ rfl rfl rfl (aV rfl km qH) trivial λb7=>?_
 refine aI rfl rfl (aD rfl bB trivial rfl rfl) ⟨rfl,rfl,trivial⟩ ?_
 refine au ?_
 refine fl dA ?_
 refine lo jw ?_
 refine fr 4 ?_
 refine lo ix ?_
 refine ja (aX (t:=aA) [(.tmp 15,_)] [a1] rfl rfl rV (.cons rfl .rep .nil) rfl rfl) ?_
 obtain⟨u8,e,h⟩:=aa h
 refine fr 2 ?_
 refine cI rfl rfl rfl (bg rfl rfl rV (ap e)) ⟨rfl,rfl,trivial⟩ λv9=>?_
 refine fl dA ?_
 refine nf λo10=>?_
 refine fr 2 ?_
 refine aI rfl rfl (aD rfl jw o10 rfl rfl) ⟨rfl,rfl,trivial⟩ ?_
 refine nt ?_
 refine sr ?_
 refine fr 5 ?_
 refine lo bB ?_
 refine fr 4 ?_
 refine lo bB ?_
 refine fr 2 ?_
 refine fr 3 ?_
 refine dQ (gU (off:=5) [17] ⟨rfl,trivial⟩ rfl rfl) ?_
 refine lo bB ?_
 refine jc (aX (t:=ah) [(.tmp 19,_),(.tmp 20,_),(.tmp 21,_)] [a0,r3.1,(r5.1,r5.2.1,r5.2.2.1,r5.2.2.2.1,r5.2.2.2.2.1,r5.2.2.2.2.2++[a1])] rfl rfl Wa (.cons rfl .rep (.cons rfl .rep (.cons trivial (.agg (.pair .int (.pair .int (.pair .int (.pair .int (.pair .rep .rep)))))) .nil))) rfl rfl) ?_
 refine aq ?_
 refine nt ?_
 refine cC ?_
 refine bf (SE.fin (Γ':=[(6,_)]) [4,0,1,2,3] ⟨rfl,trivial⟩ rfl) ?_
 cases h
 exact aN () [_] 1 ⟨rfl,trivial⟩ rfl
def dw(k:Nat)(e:(List Int)):Nat->(Int×Int)->Option Int
 |0,_=>none
 |n+1,c=>
  if c.2 < (e.length:Int) then((aK e c.2).bind λj=>
  (fC k c.1 j).bind λl=>
  (ck (c.2+1)).bind λh=>
  dw k e n (l,h)) else(some c.1)
def gQ(k:Nat)(a0:ab)(q5:ab):Nat->((List Int)×Int)->Option ((List Int)×Int)
 |0,_=>none
 |n+1,c=>
  (ii k (my (λ(j:(List Int)) (h:(List Int))=>
   if¬((h.length:Int)=c.2) then(some (j,true)) else(((dw k h k (0,0)):Option (Int)).bind λr=>
   (bQ k q5 r).bind λs=>
   if 0 < (s.length:Int) then(some (h,false)) else(some (j,true))))) (a0.2.2.2.2.2.length:Int) (c.1,false)).bind λe=>
  if e.2=true then(some (e.1,0)) else((ck (c.2+1)).bind λl=>
  gQ k a0 q5 n (e.1,l))
def oC(k:Nat)(a0:ab):Option ((List Int)×Int):=
 (je k a0 ([]:(List Int)) ([]:(List Int)) ([]:(List Int)) ([]:(List Int))).bind λr4=>
 fS r4.1 (if¬(r4.2.2=0) then(some ([],r4.2.2)) else(none)) (λq5=>if¬(r4.2.2=0) then(some ([],r4.2.2)) else(gQ k a0 q5 k ([],0)))
theorem zZ(k:Nat)(a0:ab)(r:(List Int)×Int)(h:oC k a0=some r):
 bT (d4 Tryz.prog) 10 [.rep ah a0] [] (λ_:Unit=>(bn [.rep Tl r.1,I r.2],[])):=by
 unfold oC at h
 replace h:=aY h
 refine Du 49 Tryz.func10 rfl Tryz.ntmps10 rfl λS w0=>?_
 refine sr ?_
 refine bx λb1=>?_
 refine aQ rfl rfl rfl (aV rfl V7 Xw) trivial λb2=>?_
 refine aQ rfl rfl rfl (aV rfl V6 Xv) trivial λb3=>?_
 refine nt ?_
 refine sr ?_
 refine fr 2 ?_
 refine lo bB ?_
 obtain⟨r4,Yi,h⟩:=aa h
 have U:=jE k a0 ([]:(List Int)) ([]:(List Int)) ([]:(List Int)) ([]:(List Int)) r4 Yi
 rcases hr:r4.1 with _ |q5
 .
  rw [hr] at h U;replace h:=uL h;refine aR (Δ:=[]) (F:=_) (λ_ _ _=>aj rfl _) rfl rfl (bv (N:=[(.tmp 13,.rep ah a0),(.const (.slice none 0 0),.eq (.slice none 0 0)),(.const (.slice none 0 0),.eq (.slice none 0 0)),(.const (.slice none 0 0),.eq (.slice none 0 0)),(.const (.slice none 0 0),.eq (.slice none 0 0))]) (bb [.tmp 13,.const (.slice none 0 0),.const (.slice none 0 0),.const (.slice none 0 0),.const (.slice none 0 0)] rfl rfl vv rfl U) λ_ _ _ hn=>⟨hn.1,(aE (t:=Tl) (x:=([]:(List Int))) .nil rfl rfl hn.2.1),(aE (t:=Tl) (x:=([]:(List Int))) .nil rfl rfl hn.2.2.1),(aE (t:=Tl) (x:=([]:(List Int))) .nil rfl rfl hn.2.2.2.1),(aE (t:=Tl) (x:=([]:(List Int))) .nil rfl rfl hn.2.2.2.2.1),trivial⟩) ⟨rfl,rfl,rfl,rfl,rfl,trivial⟩ λ_=>?_;refine au ?_;refine aQ rfl rfl rfl (aV rfl Qz SK) trivial λb6=>?_;refine aI rfl rfl (aD rfl DZ rfl rfl rfl) ⟨rfl,rfl,trivial⟩ ?_;refine au ?_;refine jb (dG rfl) ?_;refine nt (cn h (λh=>?_) (λh=>?_))
  .refine sr (mq ?_);refine fr 3 ?_;refine aI rfl rfl (aD rfl eB rfl rfl rfl) ⟨rfl,rfl,trivial⟩ ?_;refine fr 3 ?_;refine aI rfl rfl (aD rfl G2 rfl rfl rfl) ⟨rfl,rfl,trivial⟩ ?_;refine nt (rx (aL 1 rfl ?_));refine bf (c6 (a:=.eq (.slice none 0 0)) (a':=.rep Tl []) (dZ .nil)) ?_;refine Dp ?_;cases h;exact aN () [_,_] 0 ⟨⟨_,_,_,_,_,rfl,(.head _),eB,(λ_=>rfl),rfl⟩,⟨_,_,_,_,_,rfl,(.tail _ (.head _)),G2,(λ_=>rfl),rfl⟩,trivial⟩ rfl
  .cases h
 .
  rw [hr] at h U;replace h:=uK h;refine aR (Δ:=[]) (F:=_) (λ_ _ _=>aj rfl _) rfl rfl (bv (N:=[(.tmp 13,.rep ah a0),(.const (.slice none 0 0),.eq (.slice none 0 0)),(.const (.slice none 0 0),.eq (.slice none 0 0)),(.const (.slice none 0 0),.eq (.slice none 0 0)),(.const (.slice none 0 0),.eq (.slice none 0 0))]) (bb [.tmp 13,.const (.slice none 0 0),.const (.slice none 0 0),.const (.slice none 0 0),.const (.slice none 0 0)] rfl rfl vv rfl U) λ_ _ _ hn=>⟨hn.1,(aE (t:=Tl) (x:=([]:(List Int))) .nil rfl rfl hn.2.1),(aE (t:=Tl) (x:=([]:(List Int))) .nil rfl rfl hn.2.2.1),(aE (t:=Tl) (x:=([]:(List Int))) .nil rfl rfl hn.2.2.2.1),(aE (t:=Tl) (x:=([]:(List Int))) .nil rfl rfl hn.2.2.2.2.1),trivial⟩) ⟨rfl,rfl,rfl,rfl,rfl,trivial⟩ λz7=>?_;refine au ?_;refine aQ rfl rfl rfl (aV rfl Qz SK) trivial λb8=>?_;refine aI rfl rfl (aD rfl DZ rfl rfl rfl) ⟨rfl,rfl,trivial⟩ ?_;refine au ?_;refine jb (dG rfl) ?_;refine nt (cn h (λh=>?_) (λh=>?_))
  .refine sr (mq ?_);refine fr 5 ?_;refine aI rfl rfl (aD rfl eB rfl rfl rfl) ⟨rfl,rfl,trivial⟩ ?_;refine fr 5 ?_;refine aI rfl rfl (aD rfl G2 rfl rfl rfl) ⟨rfl,rfl,trivial⟩ ?_;refine nt (rx (aL 1 rfl ?_));refine bf (c6 (a:=.eq (.slice none 0 0)) (a':=.rep Tl []) (dZ .nil)) ?_;refine Dp ?_;cases h;exact aN () [_,_] 0 ⟨⟨_,_,_,_,_,rfl,(.head _),eB,(λ_=>rfl),rfl⟩,⟨_,_,_,_,_,rfl,(.tail _ (.head _)),G2,(λ_=>rfl),rfl⟩,trivial⟩ rfl
  .refine au ?_;refine aQ rfl rfl rfl (aV rfl XF XS) trivial λb9=>?_;refine aI rfl rfl (aD rfl bP rfl rfl rfl) ⟨rfl,rfl,trivial⟩ ?_;refine nt (ai (cJ 6 rfl ?_));refine ia (c6 (a:=.eq (.slice none 0 0)) (a':=.rep Tl []) (dZ .nil)) ?_;refine LO (Z:=Nat) (α:=(List Int)×Int) (λe c=>[(1,Pt b1),(2,Pt b2),(3,Pt b3),(4,Pt b8),(7,Pt e)]) (λe c=>[.obj b1 25 (.rep ah a0),.obj b2 28 (.rep Tl c.1),.obj b3 37 (I 0),.obj b8 66 (.eq (.pointer (some ⟨z7.1,0,none⟩))),.obj z7.1 122 (aW q5 z7.2),.obj e 3 (I c.2),.inv z7.2 (bR k q5)]) (gQ k a0 q5) k b9 ([],0) (λ_=>rfl) h (SE.fin [5,0,6,2,3,1,4] ⟨rfl,rfl,rfl,rfl,rfl,trivial⟩ rfl) (λn ml1 e c h=>?_);unfold gQ at h;refine bC (ai (H7 rfl (RS RR) ?_));refine bC (LP ?_);refine au ?_;refine fl dA ?_;refine lo jw ?_;refine ol vh ?_;refine aQ rfl rfl rfl (ax [.tmp 25] rfl rfl Xh rfl (wM (a0.2.2.2.2.2.length:Int))) ⟨rfl,trivial⟩ λD=>?_;refine nt (ai (cJ 7 rfl ?_));refine cJ 7 rfl ?_;refine cJ 7 rfl ?_;refine cJ 7 rfl ?_;refine cJ 7 rfl ?_;refine cJ 7 rfl ?_;refine cJ 7 rfl ?_;refine cJ 7 rfl ?_;obtain⟨s,Ye,h⟩:=aa h;refine pu (Δ:=[.obj D 3 (I (a0.2.2.2.2.2.length:Int)),.obj b1 25 (.rep ah a0),.obj b2 28 (.rep Tl c.1),.obj b3 37 (I 0),.obj b8 66 (.eq (.pointer (some ⟨z7.1,0,none⟩))),.obj z7.1 122 (aW q5 z7.2),.obj e 3 (I c.2),.inv z7.2 (bR k q5)]) (F:=Bt ml1) (X:=Unit) (J:=λ_=>Ov s.2) (E:=λQ=>[.obj D 3 (I (a0.2.2.2.2.2.length:Int)),.obj b1 25 (.rep ah a0),.obj b2 28 (.rep Tl s.1),.obj b3 37 (I 0),.obj b8 66 (.eq (.pointer (some ⟨z7.1,0,none⟩))),.obj z7.1 122 (aW q5 z7.2),.obj e 3 (I c.2),.inv z7.2 (bR k q5)]) (r0:=λ_=>.tup .any) rfl rfl W2 (λrec hp ha hb hs hpe hN hv l=>?_) (λdl Q=>rP (λhj=>?_) (λhj=>?_))
   .rcases rec with⟨st0,pe0,fn0,tm0,ps0,as0,bd0,df0⟩;dsimp only at hp ha hb hs hpe hN hv;subst hp hs hpe;have vN:AL tm0 [(2,Pt b2),(3,Pt b3),(4,Pt b8),(7,Pt e)]:=⟨congrArg A.eq (hv 2 _ rfl).symm,congrArg A.eq (hv 3 _ rfl).symm,congrArg A.eq (hv 4 _ rfl).symm,congrArg A.eq (hv 7 _ rfl).symm,trivial⟩;refine bT.pick (M:=(d4 Tryz.prog)) [1,0,2,3,4,5,6,7,8] [1,0,2,3,4,5,6,7,8] (uo (λ(Q:Unit) (q:(List Int)×Bool)=>[.raw l (.loop (jQ ⟨.ready,none,fn0,tm0, #[27],as0,bd0,df0⟩ (Ov q.2))),.obj b1 25 (.rep ah a0),.obj b2 28 (.rep Tl q.1),.obj b3 37 (I 0),.obj b8 66 (.eq (.pointer (some ⟨z7.1,0,none⟩))),.obj z7.1 122 (aW q5 z7.2),.obj e 3 (I c.2),.inv z7.2 (bR k q5)]) l (my (λ(O:(List Int)) (j:(List Int))=>
    if¬((j.length:Int)=c.2) then(some (O,true)) else(((dw k j k (0,0)):Option (Int)).bind λy=>
    (bQ k q5 y).bind λY=>
    if 0 < (Y.length:Int) then(some (j,false)) else(some (O,true))))) k (a0.2.2.2.2.2.length:Int) D (λQ q p r' h=>?_) () (c.1,false) s Ye) rfl (λ_=>rfl) (λ_=>rfl)
    obtain⟨rq,hq,h2,rfl⟩:=rQ h;obtain⟨O,b5⟩:=q;obtain rfl:b5=false:=hq;replace h:=aY h2;obtain⟨j,hpv⟩:∃x,x=p:=⟨_,rfl⟩;subst hpv;refine YT.pick (R':=(λQ:Unit=>(.eq (.bool rq.2),[.raw l (.loop (jQ ⟨.ready,none,fn0,tm0, #[27],as0,bd0,df0⟩ (Ov (!rq.2)))),.obj b1 25 (.rep ah a0),.obj b2 28 (.rep Tl rq.1),.obj b3 37 (I 0),.obj b8 66 (.eq (.pointer (some ⟨z7.1,0,none⟩))),.obj z7.1 122 (aW q5 z7.2),.obj e 3 (I c.2),.inv z7.2 (bR k q5)]))) [0,1,2,3,4,5,6,7] [0,1,2,3,4,5,6,7] (E0 ha hb (N:=49) (Γ:=[(2,Pt b2),(3,Pt b3),(4,Pt b8),(7,Pt e)]) rfl hN (by decide) vN (λS w=>?_)) rfl (λ_=>rfl) (λ_=>rfl);refine ae (au ?_);refine xA rfl rfl ?_;refine ai (au ?_);refine ol gX ?_;refine fr 6 ?_;refine lo bP ?_;refine jb (dG rfl) ?_;refine nt (cn h (λh=>?_) (λh=>?_))
    .refine vW (mf (pr (aL 7 rfl ?_)));refine aL 1 rfl ?_;refine aL 7 rfl ?_;refine aL 7 rfl ?_;refine aL 7 rfl ?_;refine aL 7 rfl ?_;refine aL 7 rfl ?_;refine aL 7 rfl ?_;cases h;exact mg () 7 rfl
    .refine sk (sr (cq (nt ?_)));refine aJ (Z:=Unit) (α:=Int) (λmc y=>[(2,Pt b2),(3,Pt b3),(4,Pt b8),(8,.rep Tl j),(9,.eq (.int .u8 y))]) (λmc y=>[.obj b2 28 (.rep Tl O),.obj b3 37 (I 0),.obj b8 66 (.eq (.pointer (some ⟨z7.1,0,none⟩))),.obj z7.1 122 (aW q5 z7.2),.inv z7.2 (bR k q5),.obj b1 25 (.rep ah a0),.obj e 3 (I c.2),.raw l (.loop (⟨.busy,none,fn0,tm0, #[27],as0,bd0,df0⟩:Loop))]) h (λK h=>?_) (λmc y h=>?_)
     .refine au ?_;refine ol gX ?_;refine fM rfl ?_;refine nt (ai (aF (Z:=Unit) (α:=Int×Int) (λgw u=>[(2,Pt b2),(3,Pt b3),(4,Pt b8),(8,.rep Tl j),(9,.eq (.int .u8 u.1)),(32,.rep Tl j),(33,I (j.length:Int)),(34,I u.2)]) (λgw u=>[.obj b2 28 (.rep Tl O),.obj b3 37 (I 0),.obj b8 66 (.eq (.pointer (some ⟨z7.1,0,none⟩))),.obj z7.1 122 (aW q5 z7.2),.inv z7.2 (bR k q5),.obj b1 25 (.rep ah a0),.obj e 3 (I c.2),.raw l (.loop (⟨.busy,none,fn0,tm0, #[27],as0,bd0,df0⟩:Loop))]) (dw k j) k () (0,0) (λ_=>rfl) h (SE.fin [3,4,5,6,7,2,0,1] ⟨rfl,rfl,rfl,rfl,rfl,rfl,rfl,rfl,trivial⟩ rfl) (λn gw u h=>?_)));unfold dw at h;refine sr (jb (bj rfl) ?_);refine au ?_;refine ci h (λh=>?_) (λh=>?_)
      .refine au ?_;refine ai (sr ?_);obtain⟨Yh,zz,h⟩:=aa h;refine jb (aG (t:=Ti) rfl gX bP zz) ?_;refine ja (ao (t:=Ti) rfl bP rfl) ?_;refine au ?_;refine ae (au ?_);obtain⟨mw,Yd,h⟩:=aa h;refine jb (ax [.tmp 38,.tmp 39] rfl rfl OH rfl (jo k u.1 Yh mw Yd)) ?_;refine au ?_;refine ae ?_;obtain⟨Yg,qt,h⟩:=aa h;refine jb (be rfl qt) ?_;refine au ?_;exact jz ((),(mw,Yg)) h [0,1,2,3,4,5,6,7]
      .refine au ?_;exact jz ((),u.1) h [0,1,2,3,4,5,6,7]
     .refine sr (fr 2 ?_);refine lo DZ ?_;refine mq ?_;obtain⟨Y,zM,h⟩:=aa h;refine fr 4 ?_;refine fr 4 ?_;refine aR (Δ:=[_,_]) (F:=_) (λ_ _ _=>aj rfl _) rfl rfl (bb [.tmp 42,.tmp 43] rfl rfl KR rfl (eJ k q5 z7.1 z7.2 y Y zM)) ⟨rfl,rfl,trivial⟩ λ_=>?_;refine ol AM ?_;refine jb (iq rfl) ?_;refine nt (ci h (λh=>?_) (λh=>?_))
      .refine sr (mq ?_);refine fr 3 ?_;refine aI rfl rfl (aD rfl eB rfl rfl rfl) ⟨rfl,rfl,trivial⟩ ?_;refine fr 4 ?_;refine aI rfl rfl (aD rfl G2 rfl rfl rfl) ⟨rfl,rfl,trivial⟩ ?_;refine nt (cC (kj (aL 3 rfl ?_)));refine aL 6 rfl ?_;refine aL 4 rfl ?_;refine aL 5 rfl ?_;refine aL 4 rfl ?_;refine aL 5 rfl ?_;refine aL 6 rfl ?_;refine aL 7 rfl ?_;cases h;exact H5 () 7 rfl
      .refine iU (fN (aL 1 rfl ?_));refine aL 6 rfl ?_;refine aL 2 rfl ?_;refine aL 3 rfl ?_;refine aL 5 rfl ?_;refine aL 5 rfl ?_;refine aL 6 rfl ?_;refine aL 7 rfl ?_;cases h;exact mg () 7 rfl
   .replace h:=cz (MA hj) h;refine fN (LN ?_);refine fN (tn (bC (sr (fr 7 ?_))));refine lo bP ?_;refine nt (ae (aQ rfl rfl rfl (aV rfl XF XS) trivial λYf=>?_));refine aI rfl rfl (aD rfl bP rfl rfl rfl) ⟨rfl,rfl,trivial⟩ ?_;refine nt (ae (lo bP ?_));obtain⟨mt,pq,h⟩:=aa h;refine jb (be rfl pq) ?_;refine aI rfl rfl (aD rfl bP rfl rfl rfl) ⟨rfl,rfl,trivial⟩ ?_;refine au ?_;show JN _ _ _ ([.obj Yf 3 (I mt),.obj e 3 (I c.2),.raw dl (.deferred (some [])),.obj D 3 (I (a0.2.2.2.2.2.length:Int)),.obj b1 25 (.rep ah a0),.obj b2 28 (.rep Tl s.1),.obj b3 37 (I 0),.obj b8 66 (.eq (.pointer (some ⟨z7.1,0,none⟩))),.obj z7.1 122 (aW q5 z7.2),.inv z7.2 (bR k q5)]++Bt ml1);exact Td dl ml1 (Yf,(s.1,mt)) h (gV _ (Bt ml1) [4,5,6,7,8,0,9,2] ⟨rfl,rfl,rfl,rfl,rfl,trivial⟩ rfl) (by exact rfl)
   .replace h:=dY (Me hj) h;refine au ?_;refine LM ?_;refine br (kj ?_);show JN _ _ _ ([.raw dl (.deferred (some [])),.obj D 3 (I (a0.2.2.2.2.2.length:Int)),.obj b1 25 (.rep ah a0),.obj b2 28 (.rep Tl s.1),.obj b3 37 (I 0),.obj b8 66 (.eq (.pointer (some ⟨z7.1,0,none⟩))),.obj z7.1 122 (aW q5 z7.2),.obj e 3 (I c.2),.inv z7.2 (bR k q5)]++Bt ml1);refine bf (gV (Γ':=[(2,_),(3,_)]) _ (Bt ml1) [1,2,3,4,5,6,7,8,0] ⟨rfl,rfl,trivial⟩ rfl) ?_;refine PN (Δ:=[.obj D 3 (I (a0.2.2.2.2.2.length:Int)),.obj b1 25 (.rep ah a0),.obj b2 28 (.rep Tl s.1),.obj b3 37 (I 0),.obj b8 66 (.eq (.pointer (some ⟨z7.1,0,none⟩))),.obj z7.1 122 (aW q5 z7.2),.obj e 3 (I c.2),.inv z7.2 (bR k q5)]) (dl::ml1) ?_;cases h;exact aN () [_,_] 0 ⟨⟨_,_,_,_,_,rfl,(.tail _ (.tail _ (.head _))),eB,(λ_=>rfl),rfl⟩,⟨_,_,_,_,_,rfl,(.tail _ (.tail _ (.tail _ (.head _)))),G2,(λ_=>rfl),rfl⟩,trivial⟩ rfl
def mR(k:Nat)(a0:ab)(a1:aC):Option ab:=
 (bO (aZ (length a0.2.2.2.2.2+length [a1]))).bind λ_=>
 some (a0.1,a0.2.1,a0.2.2.1,a0.2.2.2.1,a0.2.2.2.2.1,a0.2.2.2.2.2++[a1])
theorem yb(k:Nat)(a0:ab)(a1:aC)(r:ab)(h:mR k a0 a1=some r):
 cT Tryz.prog 36 [.rep ah a0,.rep aA a1] [] (λ_:Unit=>(bn [.rep ah r],[])):=by
 unfold mR at h
 replace h:=aY h
 refine cT.of 19 Tryz.func36 rfl Tryz.ntmps36 rfl λS w0=>?_
 refine sr ?_
 refine bx λb1=>?_
 refine bx λb2=>?_
 refine aQ rfl rfl rfl (aV rfl km qH) trivial λb3=>?_
 refine au ?_
 refine bD ?_
 refine da (av rfl dA) ?_
 refine ea 2 (ak rfl jw iV rfl) ?_
 refine da (av rfl dA) ?_
 refine ea 2 (ak rfl jw iV rfl) ?_
 refine da (lI rfl rfl vh) ?_
 refine da (av rfl dA) ?_
 refine ea 2 (ak rfl jw iV rfl) ?_
 refine da (lI rfl rfl vh) ?_
 refine dc (zT (t:=aA) rfl vh ix rfl rfl) ?_
 refine ea 1 (ak rfl ix (kB) rfl) ?_
 refine da (aX (t:=aA) [(.tmp 14,_)] [a1] rfl rfl rV (.cons rfl .rep .nil) rfl rfl) ?_
 refine df cy ?_
 obtain⟨u4,c,h⟩:=aa h
 refine aQ rfl rfl rfl (xT rfl rfl rV (ap c) rfl) ⟨rfl,rfl,trivial⟩ λv5=>?_
 refine fl dA ?_
 refine nf λo6=>?_
 refine fr 3 ?_
 refine aI rfl rfl (aD rfl jw o6 rfl rfl) ⟨rfl,rfl,trivial⟩ ?_
 refine nt ?_
 refine sr ?_
 refine fr 1 ?_
 refine dQ (gU (off:=5) [16] ⟨rfl,trivial⟩ rfl rfl) ?_
 refine lo bB ?_
 refine fr 1 ?_
 refine aI rfl rfl (aD rfl bB trivial rfl rfl) ⟨rfl,rfl,trivial⟩ ?_
 refine nt ?_
 refine cC ?_
 refine bf (c6 (a:=.agg (.pair (.rep Ti a0.1) (.pair (.rep Ti a0.2.1) (.pair (.rep Ti a0.2.2.1) (.pair (.rep Ti a0.2.2.2.1) (.pair (.rep (.slice (.slice Tl)) a0.2.2.2.2.1) (Rs aA (a0.2.2.2.2.2++[a1])))))))) (a':=.rep ah (a0.1,a0.2.1,a0.2.2.1,a0.2.2.2.1,a0.2.2.2.2.1,a0.2.2.2.2.2++[a1])) (dZ (.agg (.pair .rep (.pair .rep (.pair .rep (.pair .rep (.pair .rep .rep)))))))) ?_
 cases h
 exact aN () [.rep ah (a0.1,a0.2.1,a0.2.2.1,a0.2.2.2.1,a0.2.2.2.2.1,a0.2.2.2.2.2++[a1])] 0 ⟨⟨_,_,_,_,_,rfl,(.head _),bB,(kB),rfl⟩,trivial⟩ rfl
def tA(k:Nat)(a0:ab)(a1:aC):Option (ab×Int):=
 (je k a0 ([]:(List Int)) ([]:(List Int)) ([]:(List Int)) ([]:(List Int))).bind λr4=>
 fS r4.1 (if¬(r4.2.2=0) then(some ((0,0,0,0,[],[]),r4.2.2)) else(none)) (λq5=>if¬(r4.2.2=0) then(some ((0,0,0,0,[],[]),r4.2.2)) else(if(a0.2.2.2.2.2.length:Int)=8 then(some ((0,0,0,0,[],[]),6)) else((fo k a0 a1).bind λr7=>
 if¬(r7=0) then(some ((0,0,0,0,[],[]),r7)) else((mR k a0 a1).bind λr8=>
 (((bQ k q5 0).bind λj=>
 if 0 < (j.length:Int) then((gK k r8).bind λh=>
 fS h (none) (λl=>(bQ k l 0).bind λe=>
 some (decide ((e.length:Int)=0)))) else(some false)):Option (Bool)).bind λc=>
 if c=true then(some ((0,0,0,0,[],[]),9)) else(some (r8,0))))))
theorem EA(k:Nat)(a0:ab)(a1:aC)(r:ab×Int)(h:tA k a0 a1=some r):
 bT (d4 Tryz.prog) 12 [.rep ah a0,.rep aA a1] [] (λ_:Unit=>(bn [.rep ah r.1,I r.2],[])):=by
 unfold tA at h
 replace h:=aY h
 refine bT.of 49 Tryz.func12 rfl Tryz.ntmps12 rfl λS w0=>?_
 refine sr ?_
 refine bx λb1=>?_
 refine bx λb2=>?_
 refine aQ rfl rfl rfl (aV rfl km qH) trivial λb3=>?_
 refine cq ?_
 refine nt ?_
 refine sr ?_
 refine fr 2 ?_
 refine lo bB ?_
 obtain⟨r4,X,h⟩:=aa h
 have e:=jE k a0 ([]:(List Int)) ([]:(List Int)) ([]:(List Int)) ([]:(List Int)) r4 X
 rcases hr:r4.1 with _ |q5
 .
  rw [hr] at h e;replace h:=uL h;refine aR (Δ:=[]) (F:=_) (λ_ _ _=>aj rfl _) rfl rfl (bv (N:=[(.tmp 12,.rep ah a0),(.const (.slice none 0 0),.eq (.slice none 0 0)),(.const (.slice none 0 0),.eq (.slice none 0 0)),(.const (.slice none 0 0),.eq (.slice none 0 0)),(.const (.slice none 0 0),.eq (.slice none 0 0))]) (bb [.tmp 12,.const (.slice none 0 0),.const (.slice none 0 0),.const (.slice none 0 0),.const (.slice none 0 0)] rfl rfl vv rfl e) λ_ _ _ hn=>⟨hn.1,(aE (t:=Tl) (x:=([]:(List Int))) .nil rfl rfl hn.2.1),(aE (t:=Tl) (x:=([]:(List Int))) .nil rfl rfl hn.2.2.1),(aE (t:=Tl) (x:=([]:(List Int))) .nil rfl rfl hn.2.2.2.1),(aE (t:=Tl) (x:=([]:(List Int))) .nil rfl rfl hn.2.2.2.2.1),trivial⟩) ⟨rfl,rfl,rfl,rfl,rfl,trivial⟩ λ_=>?_;refine au ?_;refine jb (dG rfl) ?_;refine nt (cn h (λh=>?_) (λh=>?_))
  .refine sr (bU rfl (cN [] rfl wA km qG (fX trivial) rfl) trivial ?_);refine mq ?_;refine fr 1 ?_;refine aI rfl rfl (aD rfl bB trivial rfl rfl) ⟨rfl,rfl,trivial⟩ ?_;refine aq (nt (rx ?_));refine bf (c6 (a:=.agg (.pair (I 0) (.pair (I 0) (.pair (I 0) (.pair (I 0) (.pair (.eq (.slice none 0 0)) (.eq (.slice none 0 0)))))))) (a':=.rep ah (0,0,0,0,[],[])) (dZ (.agg (.pair .int (.pair .int (.pair .int (.pair .int (.pair .nil .nil)))))))) ?_;cases h;exact aN () [.rep ah (0,0,0,0,[],[]),_] 0 ⟨⟨_,_,_,_,_,rfl,(.head _),bB,(kB),rfl⟩,rfl,trivial⟩ rfl
  .cases h
 .
  rw [hr] at h e;replace h:=uK h;refine aR (Δ:=[]) (F:=_) (λ_ _ _=>aj rfl _) rfl rfl (bv (N:=[(.tmp 12,.rep ah a0),(.const (.slice none 0 0),.eq (.slice none 0 0)),(.const (.slice none 0 0),.eq (.slice none 0 0)),(.const (.slice none 0 0),.eq (.slice none 0 0)),(.const (.slice none 0 0),.eq (.slice none 0 0))]) (bb [.tmp 12,.const (.slice none 0 0),.const (.slice none 0 0),.const (.slice none 0 0),.const (.slice none 0 0)] rfl rfl vv rfl e) λ_ _ _ hn=>⟨hn.1,(aE (t:=Tl) (x:=([]:(List Int))) .nil rfl rfl hn.2.1),(aE (t:=Tl) (x:=([]:(List Int))) .nil rfl rfl hn.2.2.1),(aE (t:=Tl) (x:=([]:(List Int))) .nil rfl rfl hn.2.2.2.1),(aE (t:=Tl) (x:=([]:(List Int))) .nil rfl rfl hn.2.2.2.2.1),trivial⟩) ⟨rfl,rfl,rfl,rfl,rfl,trivial⟩ λz6=>?_;refine au ?_;refine jb (dG rfl) ?_;refine nt (cn h (λh=>?_) (λh=>?_))
  .refine sr (bU rfl (cN [] rfl wA km qG (fX trivial) rfl) trivial ?_);refine mq ?_;refine fr 3 ?_;refine aI rfl rfl (aD rfl bB trivial rfl rfl) ⟨rfl,rfl,trivial⟩ ?_;refine aq (nt (rx ?_));refine bf (c6 (a:=.agg (.pair (I 0) (.pair (I 0) (.pair (I 0) (.pair (I 0) (.pair (.eq (.slice none 0 0)) (.eq (.slice none 0 0)))))))) (a':=.rep ah (0,0,0,0,[],[])) (dZ (.agg (.pair .int (.pair .int (.pair .int (.pair .int (.pair .nil .nil)))))))) ?_;cases h;exact aN () [.rep ah (0,0,0,0,[],[]),_] 0 ⟨⟨_,_,_,_,_,rfl,(.head _),bB,(kB),rfl⟩,rfl,trivial⟩ rfl
  .refine au ?_;refine fl dA ?_;refine fr 2 ?_;refine lo jw ?_;refine ol vh ?_;refine jb (iG rfl) ?_;refine nt (ci h (λh=>?_) (λh=>?_))
   .refine sr (bU rfl (cN [] rfl wA km qG (fX trivial) rfl) trivial ?_);refine fr 3 ?_;refine aI rfl rfl (aD rfl bB trivial rfl rfl) ⟨rfl,rfl,trivial⟩ ?_;refine cq (nt (rx ?_));refine bf (c6 (a:=.agg (.pair (I 0) (.pair (I 0) (.pair (I 0) (.pair (I 0) (.pair (.eq (.slice none 0 0)) (.eq (.slice none 0 0)))))))) (a':=.rep ah (0,0,0,0,[],[])) (dZ (.agg (.pair .int (.pair .int (.pair .int (.pair .int (.pair .nil .nil)))))))) ?_;cases h;exact aN () [.rep ah (0,0,0,0,[],[]),_] 0 ⟨⟨_,_,_,_,_,rfl,(.head _),bB,(kB),rfl⟩,rfl,trivial⟩ rfl
   .refine au ?_;refine lo bB ?_;refine fr 4 ?_;refine lo ix ?_;obtain⟨r7,U,h⟩:=aa h;refine jb (ax [.tmp 26,.tmp 27] rfl rfl Ve rfl (mT k a0 a1 r7 U)) ?_;refine au ?_;refine jb (dG rfl) ?_;refine nt (cn h (λh=>?_) (λh=>?_))
    .refine sr (bU rfl (cN [] rfl wA km qG (fX trivial) rfl) trivial ?_);refine mq ?_;refine fr 4 ?_;refine aI rfl rfl (aD rfl bB trivial rfl rfl) ⟨rfl,rfl,trivial⟩ ?_;refine aq (nt (rx ?_));refine bf (c6 (a:=.agg (.pair (I 0) (.pair (I 0) (.pair (I 0) (.pair (I 0) (.pair (.eq (.slice none 0 0)) (.eq (.slice none 0 0)))))))) (a':=.rep ah (0,0,0,0,[],[])) (dZ (.agg (.pair .int (.pair .int (.pair .int (.pair .int (.pair .nil .nil)))))))) ?_;cases h;exact aN () [.rep ah (0,0,0,0,[],[]),_] 0 ⟨⟨_,_,_,_,_,rfl,(.head _),bB,(kB),rfl⟩,rfl,trivial⟩ rfl
    .refine sk (sr (fr 1 ?_));refine lo bB ?_;refine fr 1 ?_;refine lo ix ?_;obtain⟨r8,Q,h⟩:=aa h;refine jb (ax [.tmp 33,.tmp 34] rfl rfl Xg rfl (yb k a0 a1 r8 Q)) ?_;refine aQ rfl rfl rfl (aV rfl km qH) trivial λb9=>?_;refine aI rfl rfl (aD rfl bB rfl rfl rfl) ⟨rfl,rfl,trivial⟩ ?_;refine nt (bC (aJ (Z:=Unit) (α:=Bool) (λn j=>[(4,Pt b3),(10,Pt b9),(46,.eq (.bool j))]) (λn j=>[.obj b3 25 (.agg (.pair (I 0) (.pair (I 0) (.pair (I 0) (.pair (I 0) (.pair (.eq (.slice none 0 0)) (.eq (.slice none 0 0)))))))),.obj b9 25 (.rep ah r8),.inv z6.2 (bR k q5)]) h (λK h=>?_) (λn j h=>?_)))
     .refine ae (mq ?_);obtain⟨M,J,h⟩:=aa h;refine fr 4 ?_;refine fr 4 ?_;refine aR (Δ:=[_,_]) (F:=_) (λ_ _ _=>aj rfl _) rfl rfl (bb [.tmp 36,.const (.int .u8 (0))] rfl rfl KR rfl (eJ k q5 z6.1 z6.2 0 M J)) ⟨rfl,rfl,trivial⟩ λ_=>?_;refine ol AM ?_;refine jb (iq rfl) ?_;refine mq ?_;refine bV (s:=40) rfl (λhb=>?_) (λhb=>?_)
      .replace h:=dY (vz hb) h;refine fr 2 ?_;refine eI rfl rfl rfl rfl rfl rfl (ak rfl bB (kB) rfl) ⟨rfl,trivial⟩ ?_;obtain⟨y,E,h⟩:=aa h;have c:=lE k r8 y E;rcases hr:y with _ |O
       .rw [hr] at h c;replace h:=uL h;refine aR (Δ:=[]) (F:=_) (λ_ _ h=>(l7 rfl rfl rfl rfl h).trans rfl) rfl rfl (ax [.tmp 41] rfl rfl Hz rfl c) ⟨rfl,trivial⟩ λ_=>?_;cases h
       .rw [hr] at h c;replace h:=uK h;refine aR (Δ:=[]) (F:=_) (λ_ _ h=>(l7 rfl rfl rfl rfl h).trans rfl) rfl rfl (ax [.tmp 41] rfl rfl Hz rfl c) ⟨rfl,trivial⟩ λl=>?_;obtain⟨u,D,h⟩:=aa h;refine fr 1 ?_;refine fr 1 ?_;refine aR (Δ:=[_,_]) (F:=_) (λ_ _ h=>(l7 rfl rfl rfl rfl h).trans rfl) rfl rfl (bb [.tmp 42,.const (.int .u8 (0))] rfl rfl KR rfl (eJ k O l.1 l.2 0 u D)) ⟨rfl,rfl,trivial⟩ λ_=>?_;refine ga (lI rfl rfl AM) ?_;refine gb (iG rfl) ?_;refine au ?_;exact jz ((),decide ((u.length:Int)=0)) h [7,2,4]
      .replace h:=cz (vA hb) h;refine au ?_;exact jz ((),false) h [5,2,1]
     .refine cv h (λh=>?_) (λh=>?_)
      .refine sr (bU rfl (cN [] rfl wA km qG (fX trivial) rfl) trivial ?_);refine aI rfl rfl (aD rfl bB trivial rfl rfl) ⟨rfl,rfl,trivial⟩ ?_;refine cq (nt (rx ?_));refine bf (c6 (a:=.agg (.pair (I 0) (.pair (I 0) (.pair (I 0) (.pair (I 0) (.pair (.eq (.slice none 0 0)) (.eq (.slice none 0 0)))))))) (a':=.rep ah (0,0,0,0,[],[])) (dZ (.agg (.pair .int (.pair .int (.pair .int (.pair .int (.pair .nil .nil)))))))) ?_;cases h;exact aN () [.rep ah (0,0,0,0,[],[]),_] 0 ⟨⟨_,_,_,_,_,rfl,(.head _),bB,(kB),rfl⟩,rfl,trivial⟩ rfl
      .refine sk (sr (fr 1 ?_));refine lo bB ?_;refine fr 1 ?_;refine aI rfl rfl (aD rfl bB rfl rfl rfl) ⟨rfl,rfl,trivial⟩ ?_;refine au ?_;cases h;exact aN () [.rep ah r8,_] 0 ⟨⟨_,_,_,_,_,rfl,(.head _),bB,(kB),rfl⟩,rfl,trivial⟩ rfl
def dP(k:Nat)(a1:aC)(r7:(List ab)×bH)(j:aC×bH)(h:aC×bH):Nat->Int->Option (Except Bool Unit)
 |0,_=>none
 |n+1,e=>
  if e < (r7.1.length:Int) then((aK r7.1 e).bind λM=>
  (ik k M).bind λc=>
  (oC k (c.1,c.2.1,c.2.2.1,c.2.2.2.1,c.2.2.2.2.1,c.2.2.2.2.2)).bind λu=>
  (aK r7.1 e).bind λJ=>
  (oq k J).bind λs=>
  (aK [a1,j.1,h.1] e).bind λI=>
  (tA k (c.1,c.2.1,c.2.2.1,c.2.2.2.1,c.2.2.2.2.1,c.2.2.2.2.2) I).bind λr=>
  (aK r7.1 e).bind λF=>
  (aK [a1,j.1,h.1] e).bind λE=>
  (tc k F E).bind λl=>
  ((if¬(u.2=s.2) then(some true) else(if¬(r.2=l.2) then(some true) else((fK k u.1 s.1).bind λU=>
  if¬(U=true) then(some true) else((ij k r.1 l.1).bind λQ=>
  if¬(Q=true) then(some true) else((aK r7.1 e).bind λy=>
  (ij k (c.1,c.2.1,c.2.2.1,c.2.2.2.1,c.2.2.2.2.1,c.2.2.2.2.2) y).bind λO=>
  some (!O)))))):Option (Bool)).bind λD=>
  if D=true then(some (.error false)) else((ck (e+1)).bind λx=>
  dP k a1 r7 j h n x)) else(some (.ok ()))
def jZ(k:Nat)(a0:ab)(a1:aC)(a2:(List Int)):Option Bool:=
 (qx k a0).bind λr3=>
 if r3=true then((qy k).bind λr4=>
 some r4) else((nH k a2).bind λr5=>
 (jF k a0 a1 (r5.1,r5.2.1,r5.2.2)).bind λr7=>
 (aK r7.1 1).bind λx8=>
 (aK r7.1 1).bind λx9=>
 (iR k (r7.2.1,r7.2.2.1,r7.2.2.2) x8).bind λc=>
 (iR k (c.2.1,c.2.2.1,c.2.2.2) x9).bind λh=>
 bE (α:=Unit) (dP k a1 r7 c h k 0) (some) λ_=>
 (qy k).bind λe=>
 some e)
theorem tD(k:Nat)(a0:ab)(a1:aC)(a2:(List Int))(r:Bool)(h:jZ k a0 a1 a2=some r):
 bT (d4 Tryz.prog) 3 [.rep ah a0,.rep aA a1,.rep Tl a2] [] (λ_:Unit=>(bn [.eq (.bool r)],[])):=by
 unfold jZ at h
 replace h:=aY h
 refine bT.of 116 Tryz.func3 rfl Tryz.ntmps3 rfl λS w0=>?_
 refine sr ?_
 refine bx λb1=>?_
 refine bx λb2=>?_
 refine cq ?_
 refine nt ?_
 refine bC ?_
 refine sr ?_
 refine fr 1 ?_
 refine lo bB ?_
 obtain⟨r3,Y1,h⟩:=aa h
 have Y2:=CE k a0 r3 Y1
 refine ja (ax [.tmp 20] rfl rfl X5 rfl Y2) ?_
 refine nt ?_
 refine cv h (λh=>?_) (λh=>?_)
 .
  refine sr ?_;obtain⟨r4,Y0,h⟩:=aa h;refine bU rfl (bb [] rfl rfl XO rfl (va k r4 Y0)) trivial ?_;refine au ?_;cases h;exact ra
 .
  refine au ?_;obtain⟨r5,YZ,h⟩:=aa h;refine aQ rfl rfl rfl (ax [.tmp 23] rfl rfl X4 rfl (wT k a2 r5 YZ)) ⟨rfl,trivial⟩ λb6=>?_;refine aq (nt (sr ?_));refine fr 1 ?_;refine lo bB ?_;refine fr 2 ?_;refine lo ix ?_;refine mq ?_;obtain⟨r7,YY,h⟩:=aa h;refine fr 2 ?_;refine kc (ax [.tmp 25,.tmp 26,.tmp 27] rfl rfl X3 rfl (wR k a0 a1 (r5.1,r5.2.1,r5.2.2) b6 r7 YY)) ?_;refine au ?_;refine rA [0,2,3,4,6,7,8,9,1,5,10,11,12] (by kernel_rfl) ?_;refine eZ 1 rfl rfl rfl rfl (ak rfl ix (kB) rfl) ⟨rfl,trivial⟩ ?_;refine aO rfl rfl rfl (aP rfl) ⟨rfl,trivial⟩ ?_;obtain⟨x8,YX,h⟩:=aa h;refine aO rfl rfl rfl (aG (t:=ah) rfl SS bB YX) ⟨rfl,rfl,trivial⟩ ?_;refine aO rfl rfl rfl (ao (t:=ah) rfl bB rfl) ⟨rfl,trivial⟩ ?_;refine aO rfl rfl rfl (aP rfl) ⟨rfl,trivial⟩ ?_;refine aO rfl rfl rfl (aP rfl) ⟨rfl,trivial⟩ ?_;obtain⟨x9,YW,h⟩:=aa h;refine aO rfl rfl rfl (aG (t:=ah) rfl SS bB YW) ⟨rfl,rfl,trivial⟩ ?_;refine aO rfl rfl rfl (ao (t:=ah) rfl bB rfl) ⟨rfl,trivial⟩ ?_;refine aO rfl rfl rfl (aP rfl) ⟨rfl,trivial⟩ ?_;refine nj 9 [false,true,true,true,false,false,false,false,true] [34,39] [1] [.obj b2 27 (.rep aA a1)] rfl (by kernel_rfl) (by kernel_rfl) (by kernel_rfl) cy (λvs hv hB=>?_);obtain⟨w0,Yq,rfl,mt⟩:=an hv;obtain⟨w1,Yo,rfl,gw⟩:=an mt;obtain⟨w2,Yn,rfl,Y⟩:=an gw;obtain⟨w3,Ym,rfl,X⟩:=an Y;obtain⟨w4,Yl,rfl,U⟩:=an X;obtain⟨w5,Yk,rfl,Q⟩:=an U;obtain⟨w6,Yj,rfl,O⟩:=an Q;obtain⟨w7,Yi,rfl,M⟩:=an O;obtain⟨w8,Yh,rfl,J⟩:=an M;obtain rfl:=jY J;refine⟨[1,0,2],[.obj b6 61 (.agg (.pair (.rep Tl r7.2.1) (.pair (I r7.2.2.1) (.eq (.int .u64 r7.2.2.2))))),.obj b1 25 (.rep ah a0)],by kernel_rfl,by decide,?_⟩;obtain⟨j,YM,h⟩:=aa h;refine po rfl rfl rfl rfl (ax [.tmp 30,.tmp 33] rfl rfl WW rfl (pB k (r7.2.1,r7.2.2.1,r7.2.2.2) b6 x8 j YM)) ⟨rfl,rfl,trivial⟩ (by kernel_rfl) ?_;obtain⟨s,YL,h⟩:=aa h;refine po rfl rfl rfl rfl (ax [.tmp 35,.tmp 38] rfl rfl WW rfl (pB k (j.2.1,j.2.2.1,j.2.2.2) b6 x9 s YL)) ⟨rfl,rfl,trivial⟩ (by kernel_rfl) ?_;refine xu (by kernel_rfl) ?_;refine jc (aX (t:=aA) [(.tmp 29,_),(.tmp 34,_),(.tmp 39,_)] [a1,j.1,s.1] rfl rfl rV (.cons rfl .rep (.cons rfl .rep (.cons rfl .rep .nil))) rfl rfl) ?_;refine aq (nt ?_);refine cF (Z:=Unit) (α:=Unit) (λYd Yg=>[]) (λYd Yg=>[]) (λe=>e=r) h (λe h=>Option.some.inj h) (λK hR h=>?_) (λYd Yg h=>?_)
  .refine au ?_;refine ai (aF (λzM u=>[(8,Rs ah r7.1),(9,Rs aA [a1,j.1,s.1]),(10,I u)]) (λzM u=>[]) (dP k a1 r7 j s) k () 0 (λ_=>rfl) h (SE.fin [] ⟨rfl,rfl,rfl,trivial⟩ rfl) (λn zM u h=>?_));unfold dP at h;refine au ?_;refine ol SS ?_;refine jb (bj rfl) ?_;refine nt (ci h (λh=>?_) (λh=>?_))
   .refine au ?_;refine ai (au ?_);obtain⟨YR,YB,h⟩:=aa h;refine jb (aG (t:=ah) rfl SS bB YB) ?_;refine ja (ao (t:=ah) rfl bB rfl) ?_;obtain⟨c,YK,h⟩:=aa h;refine aQ rfl rfl rfl (ax [.tmp 50] rfl rfl XN rfl (oH k YR c YK)) ⟨rfl,trivial⟩ λY9=>?_;refine aQ rfl rfl rfl (aV rfl km qH) trivial λF=>?_;refine aI rfl rfl (aD rfl bB trivial rfl rfl) ⟨rfl,rfl,trivial⟩ ?_;refine nt (sr (fr 1 ?_));refine dQ (gU (off:=5) [] trivial rfl rfl) ?_;refine lo bB ?_;obtain⟨D,YJ,h⟩:=aa h;refine ja (bv (N:=[(.tmp 53,.agg (.pair (I c.1) (.pair (I c.2.1) (.pair (I c.2.2.1) (.pair (I c.2.2.2.1) (.pair (.rep (.slice (.slice Tl)) c.2.2.2.2.1) (Rs aA c.2.2.2.2.2)))))))]) (bb [.tmp 53] rfl rfl Xs rfl (zZ k (c.1,c.2.1,c.2.2.1,c.2.2.2.1,c.2.2.2.2.1,c.2.2.2.2.2) D YJ)) λ_ _ _ hn=>⟨(aE (t:=ah) (x:=(c.1,c.2.1,c.2.2.1,c.2.2.2.1,c.2.2.2.2.1,c.2.2.2.2.2)) (.agg (.pair .int (.pair .int (.pair .int (.pair .int (.pair .rep .rep)))))) trivial rfl hn.1),trivial⟩) ?_;refine au ?_;obtain⟨YQ,YA,h⟩:=aa h;refine jb (aG (t:=ah) rfl SS bB YA) ?_;refine ja (ao (t:=ah) rfl bB rfl) ?_;obtain⟨y,YI,h⟩:=aa h;refine ja (ax [.tmp 61] rfl rfl Xr rfl (zI k YQ y YI)) ?_;refine au ?_;refine ng ?_;refine eZ 0 rfl rfl rfl rfl (ak rfl bB (kB) rfl) ⟨rfl,trivial⟩ ?_;refine aO rfl rfl rfl (aP rfl) ⟨rfl,trivial⟩ ?_;refine aO rfl rfl rfl (aP rfl) ⟨rfl,trivial⟩ ?_;obtain⟨Yf,Yz,h⟩:=aa h;refine aO rfl rfl rfl (aG (t:=aA) rfl vh ix Yz) ⟨rfl,rfl,trivial⟩ ?_;refine aO rfl rfl rfl (ao (t:=aA) rfl ix rfl) ⟨rfl,trivial⟩ ?_;obtain⟨l,YH,h⟩:=aa h;refine aO rfl rfl rfl (bv (N:=[(.tmp 66,.agg (.pair (I c.1) (.pair (I c.2.1) (.pair (I c.2.2.1) (.pair (I c.2.2.2.1) (.pair (.rep (.slice (.slice Tl)) c.2.2.2.2.1) (Rs aA c.2.2.2.2.2))))))),(.tmp 70,.rep aA Yf)]) (bb [.tmp 66,.tmp 70] rfl rfl Xq rfl (EA k (c.1,c.2.1,c.2.2.1,c.2.2.2.1,c.2.2.2.2.1,c.2.2.2.2.2) Yf l YH)) λ_ _ _ hn=>⟨(aE (t:=ah) (x:=(c.1,c.2.1,c.2.2.1,c.2.2.2.1,c.2.2.2.2.1,c.2.2.2.2.2)) (.agg (.pair .int (.pair .int (.pair .int (.pair .int (.pair .rep .rep)))))) trivial rfl hn.1),hn.2.1,trivial⟩) ⟨rfl,rfl,trivial⟩ ?_;refine aO rfl rfl rfl (aP rfl) ⟨rfl,trivial⟩ ?_;refine aO rfl rfl rfl (iO rfl rfl) ⟨rfl,trivial⟩ ?_;refine aO rfl rfl rfl (iO rfl rfl) ⟨rfl,trivial⟩ ?_;refine vX (Jk 25 (.agg (.pair (I 0) (.pair (I 0) (.pair (I 0) (.pair (I 0) (.pair (.eq (.slice none 0 0)) (.eq (.slice none 0 0))))))))) (λ_=>rfl) rfl rfl rfl (aV rfl km qH) trivial ?_;refine nj 10 [true,true,true,true,true,true,true,true,false,true] [17] [] [] rfl (by kernel_rfl) (by kernel_rfl) (by kernel_rfl) cy (λvs hv hB=>?_);obtain⟨w0,Yq,rfl,mt⟩:=an hv;obtain⟨w1,Yo,rfl,gw⟩:=an mt;obtain⟨w2,Yn,rfl,Y⟩:=an gw;obtain⟨w3,Ym,rfl,X⟩:=an Y;obtain⟨w4,Yl,rfl,U⟩:=an X;obtain⟨w5,Yk,rfl,Q⟩:=an U;obtain⟨w6,Yj,rfl,O⟩:=an Q;obtain⟨w7,Yi,rfl,M⟩:=an O;obtain⟨w8,Yh,rfl,J⟩:=an M;obtain⟨w9,Yp,rfl,mc⟩:=an J;obtain rfl:=jY mc;obtain⟨E,rfl⟩:=Ee hB.2.2.2.2.2.2.2.2.2.1;refine⟨[0,1],[.obj F 25 (.agg (.pair (I c.1) (.pair (I c.2.1) (.pair (I c.2.2.1) (.pair (I c.2.2.2.1) (.pair (.rep (.slice (.slice Tl)) c.2.2.2.2.1) (Rs aA c.2.2.2.2.2))))))),.obj E 25 (.agg (.pair (I 0) (.pair (I 0) (.pair (I 0) (.pair (I 0) (.pair (.eq (.slice none 0 0)) (.eq (.slice none 0 0))))))))],by kernel_rfl,by decide,?_⟩
    refine lw 1 rfl ?_;refine qL rfl rfl (aD rfl bB rfl rfl rfl) ⟨rfl,rfl,trivial⟩ (by kernel_rfl) ?_;refine LI rfl rfl rfl rfl (ox rfl) ⟨rfl,trivial⟩ (by kernel_rfl) ?_;refine uQ ?_;refine bf (SE.fin (Γ':=[(8,Rs ah r7.1),(9,Rs aA [a1,j.1,s.1]),(10,I u),(11,Pt F),(12,.rep Tl D.1),(13,I D.2),(14,.rep Tl y.1),(15,I y.2),(16,Pt E),(17,I l.2)]) (Δ':=[.obj E 25 (.rep ah l.1),.obj F 25 (.agg (.pair (I c.1) (.pair (I c.2.1) (.pair (I c.2.2.1) (.pair (I c.2.2.2.1) (.pair (.rep (.slice (.slice Tl)) c.2.2.2.2.1) (Rs aA c.2.2.2.2.2)))))))]) [0,1] ⟨rfl,rfl,rfl,rfl,rfl,rfl,rfl,rfl,rfl,rfl,trivial⟩ rfl) ?_;refine au ?_;refine ng ?_;refine aO rfl rfl rfl (aP rfl) ⟨rfl,trivial⟩ ?_;refine aO rfl rfl rfl (aP rfl) ⟨rfl,trivial⟩ ?_;obtain⟨YP,Yy,h⟩:=aa h;refine aO rfl rfl rfl (aG (t:=ah) rfl SS bB Yy) ⟨rfl,rfl,trivial⟩ ?_;refine aO rfl rfl rfl (ao (t:=ah) rfl bB rfl) ⟨rfl,trivial⟩ ?_;refine aO rfl rfl rfl (aP rfl) ⟨rfl,trivial⟩ ?_;refine aO rfl rfl rfl (aP rfl) ⟨rfl,trivial⟩ ?_;obtain⟨YO,Yx,h⟩:=aa h;refine aO rfl rfl rfl (aG (t:=aA) rfl vh ix Yx) ⟨rfl,rfl,trivial⟩ ?_;refine aO rfl rfl rfl (ao (t:=aA) rfl ix rfl) ⟨rfl,trivial⟩ ?_;obtain⟨mw,YG,h⟩:=aa h;refine aO rfl rfl rfl (ax [.tmp 78,.tmp 82] rfl rfl Xp rfl (D8 k YP YO mw YG)) ⟨rfl,rfl,trivial⟩ ?_;refine aO rfl rfl rfl (aP rfl) ⟨rfl,trivial⟩ ?_;refine aO rfl rfl rfl (iO rfl rfl) ⟨rfl,trivial⟩ ?_;refine aO rfl rfl rfl (iO rfl rfl) ⟨rfl,trivial⟩ ?_;refine vX (Jk 25 (.agg (.pair (I 0) (.pair (I 0) (.pair (I 0) (.pair (I 0) (.pair (.eq (.slice none 0 0)) (.eq (.slice none 0 0))))))))) (λ_=>rfl) rfl rfl rfl (aV rfl km qH) trivial ?_;refine nj 13 [true,true,true,true,true,true,true,true,true,true,true,false,true] [19] [] [] rfl (by kernel_rfl) (by kernel_rfl) (by kernel_rfl) cy (λvs hv hB=>?_);obtain⟨w0,Yq,rfl,mt⟩:=an hv;obtain⟨w1,Yo,rfl,gw⟩:=an mt;obtain⟨w2,Yn,rfl,Y⟩:=an gw;obtain⟨w3,Ym,rfl,X⟩:=an Y;obtain⟨w4,Yl,rfl,U⟩:=an X;obtain⟨w5,Yk,rfl,Q⟩:=an U;obtain⟨w6,Yj,rfl,O⟩:=an Q;obtain⟨w7,Yi,rfl,M⟩:=an O;obtain⟨w8,Yh,rfl,J⟩:=an M;obtain⟨w9,Yp,rfl,mc⟩:=an J;obtain⟨Y8,Y5,rfl,Yu⟩:=an mc;obtain⟨Y7,Y4,rfl,Yt⟩:=an Yu;obtain⟨Y6,Y3,rfl,Ys⟩:=an Yt;obtain rfl:=jY Ys;obtain⟨qt,rfl⟩:=Ee hB.2.2.2.2.2.2.2.2.2.2.2.2.1;refine⟨[0,1,2],[.obj E 25 (.rep ah l.1),.obj F 25 (.agg (.pair (I c.1) (.pair (I c.2.1) (.pair (I c.2.2.1) (.pair (I c.2.2.2.1) (.pair (.rep (.slice (.slice Tl)) c.2.2.2.2.1) (Rs aA c.2.2.2.2.2))))))),.obj qt 25 (.agg (.pair (I 0) (.pair (I 0) (.pair (I 0) (.pair (I 0) (.pair (.eq (.slice none 0 0)) (.eq (.slice none 0 0))))))))],by kernel_rfl,by decide,?_⟩;refine lw 2 rfl ?_;refine qL rfl rfl (aD rfl bB rfl rfl rfl) ⟨rfl,rfl,trivial⟩ (by kernel_rfl) ?_;refine LI rfl rfl rfl rfl (ox rfl) ⟨rfl,trivial⟩ (by kernel_rfl) ?_;refine uQ ?_;refine bf (SE.fin (Γ':=[(8,Rs ah r7.1),(9,Rs aA [a1,j.1,s.1]),(10,I u),(11,Pt F),(12,.rep Tl D.1),(13,I D.2),(14,.rep Tl y.1),(15,I y.2),(16,Pt E),(17,I l.2),(18,Pt qt),(19,I mw.2)]) (Δ':=[.obj qt 25 (.rep ah mw.1),.obj E 25 (.rep ah l.1),.obj F 25 (.agg (.pair (I c.1) (.pair (I c.2.1) (.pair (I c.2.2.1) (.pair (I c.2.2.2.1) (.pair (.rep (.slice (.slice Tl)) c.2.2.2.2.1) (Rs aA c.2.2.2.2.2)))))))]) [0,1,2] ⟨rfl,rfl,rfl,rfl,rfl,rfl,rfl,rfl,rfl,rfl,rfl,rfl,trivial⟩ rfl) ?_
    refine tn (aJ (Z:=Unit) (α:=Bool) (λzz pq=>[(8,Rs ah r7.1),(9,Rs aA [a1,j.1,s.1]),(10,I u),(114,.eq (.bool pq))]) (λzz pq=>[]) h (λK h=>?_) (λzz pq h=>?_))
    .refine bD ?_;refine dm ?_;refine dm ?_;refine db (dG rfl) ?_;refine lY rfl rfl rfl (aP rfl) ⟨rfl,trivial⟩ (λhb=>?_) (λhb=>?_)
     .replace h:=dY (Qf hb) h;iterate 3 refine dg ?_
      refine db (kV rfl) ?_;refine dm ?_;iterate 4 refine dg ?_
      refine db (kV rfl) ?_;refine dm ?_;iterate 4 refine dg ?_
      refine db (kV rfl) ?_;refine dm ?_;iterate 5 refine dg ?_
      refine df cy ?_;refine au ?_;exact jz ((),true) h []
     .replace h:=cz (BY hb) h;refine bo rfl rfl rfl rfl rfl (aP rfl) ⟨rfl,rfl,trivial⟩ ?_;refine bo rfl rfl rfl rfl rfl (aP rfl) ⟨rfl,rfl,trivial⟩ ?_;refine bo rfl rfl rfl rfl rfl (dG rfl) ⟨rfl,rfl,rfl,trivial⟩ ?_;refine db (qi rfl) ?_;refine lY rfl rfl rfl (aP rfl) ⟨rfl,trivial⟩ (λhb=>?_) (λhb=>?_)
      .replace h:=dY (Qf hb) h;iterate 4 refine dg ?_
       refine db (kV rfl) ?_;refine dm ?_;iterate 4 refine dg ?_
       refine db (kV rfl) ?_;refine dm ?_;iterate 5 refine dg ?_
       refine df cy ?_;refine au ?_;exact jz ((),true) h []
      .replace h:=cz (BY hb) h;refine bo rfl rfl rfl rfl rfl (aP rfl) ⟨rfl,rfl,trivial⟩ ?_;refine bo rfl rfl rfl rfl rfl (aP rfl) ⟨rfl,rfl,trivial⟩ ?_;obtain⟨YV,YF,h⟩:=aa h;refine bo rfl rfl rfl rfl rfl (ax [.tmp 95,.tmp 96] rfl rfl OJ rfl (ju k D.1 y.1 YV YF)) ⟨rfl,rfl,rfl,trivial⟩ ?_;refine bo rfl rfl rfl rfl rfl (eQ rfl) ⟨rfl,rfl,trivial⟩ ?_;refine db (qi rfl) ?_;refine lY rfl rfl rfl (aP rfl) ⟨rfl,trivial⟩ (λhb=>?_) (λhb=>?_)
       .replace h:=dY (ti hb) h;iterate 4 refine dg ?_
        refine db (kV rfl) ?_;refine dm ?_;iterate 5 refine dg ?_
        refine df cy ?_;refine au ?_;exact jz ((),true) h []
       .replace h:=cz (nC hb) h;refine fW 1 rfl rfl rfl rfl rfl rfl (ak rfl bB (kB) rfl) ⟨rfl,rfl,trivial⟩ ?_;refine fW 0 rfl rfl rfl rfl rfl rfl (ak rfl bB (kB) rfl) ⟨rfl,rfl,trivial⟩ ?_;obtain⟨YU,YE,h⟩:=aa h;refine bo rfl rfl rfl rfl rfl (ax [.tmp 101,.tmp 102] rfl rfl Vj rfl (oG k l.1 mw.1 YU YE)) ⟨rfl,rfl,rfl,trivial⟩ ?_;refine bo rfl rfl rfl rfl rfl (eQ rfl) ⟨rfl,rfl,trivial⟩ ?_;refine db (qi rfl) ?_;refine lY rfl rfl rfl (aP rfl) ⟨rfl,trivial⟩ (λhb=>?_) (λhb=>?_)
        .replace h:=dY (ti hb) h;iterate 5 refine dg ?_
         refine df cy ?_;refine au ?_;exact jz ((),true) h []
        .replace h:=cz (nC hb) h;refine fW 2 rfl rfl rfl rfl rfl rfl (ak rfl bB (kB) rfl) ⟨rfl,rfl,trivial⟩ ?_;refine bo rfl rfl rfl rfl rfl (aP rfl) ⟨rfl,rfl,trivial⟩ ?_;refine bo rfl rfl rfl rfl rfl (aP rfl) ⟨rfl,rfl,trivial⟩ ?_;obtain⟨Ye,Yw,h⟩:=aa h;refine bo rfl rfl rfl rfl rfl (aG (t:=ah) rfl SS bB Yw) ⟨rfl,rfl,rfl,trivial⟩ ?_;refine bo rfl rfl rfl rfl rfl (ao (t:=ah) rfl bB rfl) ⟨rfl,rfl,trivial⟩ ?_;refine df cy ?_;obtain⟨Yr,YD,h⟩:=aa h;refine gb (bv (N:=[(.tmp 107,.agg (.pair (I c.1) (.pair (I c.2.1) (.pair (I c.2.2.1) (.pair (I c.2.2.2.1) (.pair (.rep (.slice (.slice Tl)) c.2.2.2.2.1) (Rs aA c.2.2.2.2.2))))))),(.tmp 111,.rep ah Ye)]) (ax [.tmp 107,.tmp 111] rfl rfl Vj rfl (oG k (c.1,c.2.1,c.2.2.1,c.2.2.2.1,c.2.2.2.2.1,c.2.2.2.2.2) Ye Yr YD)) λ_ _ _ hn=>⟨(aE (t:=ah) (x:=(c.1,c.2.1,c.2.2.1,c.2.2.2.1,c.2.2.2.2.1,c.2.2.2.2.2)) (.agg (.pair .int (.pair .int (.pair .int (.pair .int (.pair .rep .rep)))))) trivial rfl hn.1),hn.2.1,trivial⟩) ?_;refine ga (eQ rfl) ?_;refine au ?_;exact jz ((), !Yr) h []
    .refine cv h (λh=>?_) (λh=>?_)
     .refine au ?_;obtain rfl:=hR _ h;exact ra
     .refine au ?_;refine ae (mq ?_);obtain⟨YN,Yv,h⟩:=aa h;refine jb (be rfl Yv) ?_;refine au ?_;exact jz ((),YN) h []
   .refine au ?_;exact jz ((),()) h []
  .refine sr ?_;obtain⟨YS,YC,h⟩:=aa h;refine bU rfl (bb [] rfl rfl XO rfl (va k YS YC)) trivial ?_;refine au ?_;cases h;exact ra
