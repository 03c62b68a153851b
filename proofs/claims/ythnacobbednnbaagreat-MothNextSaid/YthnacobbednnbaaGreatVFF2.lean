import Derived.Test.YthnacobbednnbaaGreatVFB10
open Nat
open List hiding mem_of_getElem?
open Array hiding mem_of_getElem? mk
set_option linter.unusedSimpArgs false
set_option linter.unusedVariables false
set_option maxRecDepth 4000
set_option maxHeartbeats 1000000
namespace Go.Proofs.YthnacobbednnbaaGreat
open K Go Go.Proofs
def eM(k:Nat)(a0:ab)(a1:(List Int)):Nat->(Int×Int)->Option (Except ((Option ab)×Int×Int) Int)
 |0,_=>none
 |n+1,y5=>
  if y5.2 < (a1.length:Int) then((aP a1 y5.2).bind λx7=>
  (ck (a0.1 - 1)).bind λx8=>
  (dz k x7 0 x8).bind λr9=>
  if¬(r9=true) then(some (.error (none,0,3))) else(((if 0 < y5.2 then((ck (y5.2 - 1)).bind λh=>
  (aP a1 h).bind λe=>
  some (decide (x7≤e))) else(some false)):Option (Bool)).bind λj=>
  if j=true then(some (.error (none,0,5))) else((fL k y5.1 x7).bind λl=>
  (ck (y5.2+1)).bind λc=>
  eM k a0 a1 n (l,c)))) else(some (.ok y5.1))
def dp(k:Nat)(a0:ab)(h:Int)(e:(List Int)):Nat->Int->Option (Except ((Option ab)×Int×Int) Unit)
 |0,_=>none
 |n+1,c=>
  if c < (e.length:Int) then((aP e c).bind λu=>
  (ck (a0.1 - 1)).bind λs=>
  (ck ((a0.2.2.2.2.1.length:Int) - 1)).bind λr=>
  (aP [s,r,(a0.2.2.2.2.1.length:Int)] h).bind λl=>
  (dz k u 0 l).bind λx=>
  if¬(x=true) then(some (.error (none,0,3))) else((ck (c+1)).bind λj=>
  dp k a0 h e n j)) else(some (.ok ()))
def cN(k:Nat)(a0:ab)(a2:(List Int))(a3:(List Int))(a4:(List Int)):Nat->Int->Option (Except ((Option ab)×Int×Int) Unit)
 |0,_=>none
 |n+1,c=>
  if c < ([a2,a3,a4].length:Int) then(bE (α:=Unit) ((aP [a2,a3,a4] c).bind λj=>
  dp k a0 c j k 0) (λe=>some (.error e)) λ_=>
  (ck (c+1)).bind λh=>
  cN k a0 a2 a3 a4 n h) else(some (.ok ()))
def jG(k:Nat)(a0:ab)(a1:(List Int))(a2:(List Int))(a3:(List Int))(a4:(List Int)):Option ((Option ab)×Int×Int):=
 (ml k a0).bind λr2=>
 if¬(r2=0) then(some (none,0,r2)) else(bE (α:=Int) (eM k a0 a1 k (0,0)) (some) λx3=>
 bE (α:=Unit) (cN k a0 a2 a3 a4 k 0) (some) λ_=>
 (iM k a0).bind λe=>
 f8 e (none) (λc=>(ek k c).bind λh=>
 some (some c,x3,0)))
theorem lM(k:Nat)(a0:ab)(a1:(List Int))(a2:(List Int))(a3:(List Int))(a4:(List Int))(r:(Option ab)×Int×Int)(h:jG k a0 a1 a2 a3 a4=some r):
 bX (dN Tryz.prog) 48 [.rep ap a0,.rep Tl a1,.rep Tl a2,.rep Tl a3,.rep Tl a4] [] (λz:Nat×Nat=>(bI [JL r.1 z.1,.eq (.int .u8 r.2.1),I r.2.2],JK r.1 λq=>qe q z.1 z.2 k)):=by
 unfold jG at h
 replace h:=bg h
 refine bX.of 95 Tryz.func48 rfl Tryz.ntmps48 rfl λS w0=>?_
 refine sr ?_
 refine bx λb1=>?_
 refine cq ?_
 refine cq ?_
 refine cq ?_
 refine nt ?_
 refine aj ?_
 refine sr ?_
 refine lo fC ?_
 obtain⟨r2,UH,h⟩:=aa h
 have UI:=xm k a0 r2 UH
 refine ja (au [.tmp 22] rfl rfl Td rfl UI) ?_
 refine aq ?_
 refine nt ?_
 refine sr ?_
 refine mq ?_
 refine jb (fq rfl) ?_
 refine nt ?_
 refine cn h (λh=>?_) (λh=>?_)
 .
  refine sr (mq ?_);refine cq ?_;refine cq ?_;refine aq (nt (rx ?_));cases h;exact aL (0,0) [.eq (.pointer none),_,_] 0 ⟨rfl,rfl,rfl,trivial⟩ rfl
 .
  refine sk (sr (cq (nt ?_)));refine dI (Z:=Unit) (α:=Int) (λz4 x3=>[(2,.rep Tl a2),(3,.rep Tl a3),(4,.rep Tl a4),(5,Pt b1),(14,.eq (.int .u8 x3))]) (λz4 x3=>[.obj b1 25 (.rep ap a0)]) (λe=>e=r) h (λe h=>Option.some.inj h) (λK hR h=>?_) (λz4 x3 h=>?_)
  .refine sr (mq ?_);refine ol jk ?_;refine eX rfl ?_;refine nt (ak (aI (λz6 y5=>[(1,.rep Tl a1),(2,.rep Tl a2),(3,.rep Tl a3),(4,.rep Tl a4),(5,Pt b1),(14,.eq (.int .u8 y5.1)),(27,.rep Tl a1),(28,I (a1.length:Int)),(29,I y5.2)]) (λz6 y5=>[.obj b1 25 (.rep ap a0)]) (eM k a0 a1) k () (0,0) (λ_=>rfl) h (SE.fin [0] ⟨rfl,rfl,rfl,rfl,rfl,rfl,rfl,rfl,rfl,trivial⟩ rfl) (λn z6 y5 h=>?_)));unfold eM at h;refine sr (jb (bK rfl) ?_);refine nt (aj (ci h (λh=>?_) (λh=>?_)))
   .refine sk (aj (ak (sr (mq ?_))));obtain⟨x7,UF,h⟩:=aa h;refine jb (bo (t:=Ti) rfl jk cQ UF) ?_;refine ja (av (t:=Ti) rfl cQ rfl) ?_;refine aq ?_;refine aq (nt (aj (sr ?_)));refine mq ?_;refine fl gI ?_;refine lo cQ ?_;obtain⟨x8,UE,h⟩:=aa h;refine jb (eD rfl UE) ?_;obtain⟨r9,UG,h⟩:=aa h;refine jc (au [.tmp 34,.const (.int .i64 (0)),.tmp 37] rfl rfl xH rfl (dH k x7 0 x8 r9 UG)) ?_;refine ja (iK rfl) ?_;refine nt (cw h (λh=>?_) (λh=>?_))
    .refine sr (cq ?_);refine cq ?_;refine cq (nt (rx (br (bP (bF ?_)))));obtain rfl:=hR _ h;exact aL (0,0) [.eq (.pointer none),_,_] 0 ⟨rfl,rfl,rfl,trivial⟩ rfl
    .refine sk (aj (aJ (Z:=Unit) (α:=Bool) (λO y=>[(1,.rep Tl a1),(2,.rep Tl a2),(3,.rep Tl a3),(4,.rep Tl a4),(5,Pt b1),(14,.eq (.int .u8 y5.1)),(16,I x7),(27,.rep Tl a1),(28,I (a1.length:Int)),(29,I y5.2),(50,.eq (.bool y))]) (λO y=>[.obj b1 25 (.rep ap a0)]) h (λK h=>?_) (λO y h=>?_)))
     .refine ae (mq ?_);refine jb (nS rfl) ?_;refine mq ?_;refine cF (s:=42) rfl (λhb=>?_) (λhb=>?_)
      .replace h:=eU (sP hb) h;refine gm ?_;refine gm ?_;refine gm ?_;obtain⟨UL,Uo,h⟩:=aa h;refine gb (eD rfl Uo) ?_;obtain⟨UA,Un,h⟩:=aa h;refine gb (bo (t:=Ti) rfl jk cQ Un) ?_;refine ga (av (t:=Ti) rfl cQ rfl) ?_;refine gb (CB rfl) ?_;refine pt (nl ?_);exact jz ((),decide (x7≤UA)) h [0]
      .replace h:=cV (sQ hb) h;iterate 7 refine gn ?_
       refine pf (nl ?_);exact jz ((),false) h [0]
     .refine cv h (λh=>?_) (λh=>?_)
      .refine sr (cq ?_);refine cq ?_;refine cq (nt (rx (br (bP (bF ?_)))));obtain rfl:=hR _ h;exact aL (0,0) [.eq (.pointer none),_,_] 0 ⟨rfl,rfl,rfl,trivial⟩ rfl
      .refine sk (ae ?_);iterate 2 refine mq ?_
       obtain⟨Y,Ut,h⟩:=aa h;refine jb (au [.tmp 51,.tmp 52] rfl rfl Ot rfl (j8 k y5.1 x7 Y Ut)) ?_;refine aq (aD (aS (tn (ae ?_))));obtain⟨Uz,Um,h⟩:=aa h;refine jb (bG rfl Um) ?_;refine mq (nl ?_);exact jz ((),(Y,Uz)) h [0]
   .refine xa ?_;exact jz ((),y5.1) h [0]
  .refine dI (Z:=Unit) (α:=Unit) (λM U=>[(5,Pt b1),(14,.eq (.int .u8 x3))]) (λM U=>[.obj b1 25 (.rep ap a0)]) (λe=>e=r) h (λe h=>Option.some.inj h) (λK hR h=>?_) (λM U h=>?_)
   .refine sr ?_;iterate 3 refine mq ?_
    refine jc (bb (t:=Tl) [(.tmp 55,_),(.tmp 56,_),(.tmp 57,_)] [a2,a3,a4] rfl rfl pe (.cons rfl .rep (.cons rfl .rep (.cons rfl .rep .nil))) rfl rfl) ?_;refine ol s9 ?_;refine eX rfl ?_;refine nt (ak (aI (λJ c=>[(5,Pt b1),(14,.eq (.int .u8 x3)),(58,.rep (.slice Tl) [a2,a3,a4]),(59,I ([a2,a3,a4].length:Int)),(60,I c)]) (λJ c=>[.obj b1 25 (.rep ap a0)]) (cN k a0 a2 a3 a4) k () 0 (λ_=>rfl) h (SE.fin [0] ⟨rfl,rfl,rfl,rfl,rfl,trivial⟩ rfl) (λn J c h=>?_)));unfold cN at h;refine sr (jb (bK rfl) ?_);refine nt (aj (ci h (λh=>?_) (λh=>?_)))
    .refine sk (dI (Z:=Unit) (α:=Unit) (λE Q=>[(5,Pt b1),(14,.eq (.int .u8 x3)),(58,.rep (.slice Tl) [a2,a3,a4]),(59,I ([a2,a3,a4].length:Int)),(60,I c)]) (λE Q=>[.obj b1 25 (.rep ap a0)]) (λe=>e=r) h (λe h=>hR e h) (λK hR h=>?_) (λE Q h=>?_))
     .refine ak (sr (mq ?_));obtain⟨x,Ul,h⟩:=aa h;refine jb (bo (t:=Tl) rfl s9 jW Ul) ?_;refine ja (av (t:=Tl) rfl jW rfl) ?_;refine aq ?_;refine aq (nt (sr ?_));refine mq ?_;refine ol jk ?_;refine eX rfl ?_;refine nt (ak (aI (λD u=>[(5,Pt b1),(14,.eq (.int .u8 x3)),(17,I c),(58,.rep (.slice Tl) [a2,a3,a4]),(59,I ([a2,a3,a4].length:Int)),(60,I c),(65,.rep Tl x),(66,I (x.length:Int)),(67,I u)]) (λD u=>[.obj b1 25 (.rep ap a0)]) (dp k a0 c x) k () 0 (λ_=>rfl) h (SE.fin [0] ⟨rfl,rfl,rfl,rfl,rfl,rfl,rfl,rfl,rfl,trivial⟩ rfl) (λn D u h=>?_)));unfold dp at h;refine sr (jb (bK rfl) ?_);refine nt (aj (ci h (λh=>?_) (λh=>?_)))
      .refine sk (aj (ak (sr ?_)));obtain⟨Uy,Uk,h⟩:=aa h;refine jb (bo (t:=Ti) rfl jk cQ Uk) ?_;refine ja (av (t:=Ti) rfl cQ rfl) ?_;refine aq (nt (sr ?_));refine mq ?_;refine fl gI ?_;refine lo cQ ?_;obtain⟨UK,zz,h⟩:=aa h;refine jb (eD rfl zz) ?_;refine fl dD ?_;refine lo i8 ?_;refine ol xY ?_;obtain⟨UJ,qt,h⟩:=aa h;refine jb (eD rfl qt) ?_;refine fl dD ?_;refine lo i8 ?_;refine ol xY ?_;refine jc (Eh rfl Q2 cQ Pm) ?_;refine mq ?_;obtain⟨Ux,mw,h⟩:=aa h;refine jb (nR (t:=Ti) rfl Q2 cQ rfl rfl (λ_=>rfl) mw) ?_;obtain⟨UC,Us,h⟩:=aa h;refine jc (au [.tmp 71,.const (.int .i64 (0)),.tmp 84] rfl rfl xH rfl (dH k Uy 0 Ux UC Us)) ?_;refine ja (iK rfl) ?_;refine nt (cw h (λh=>?_) (λh=>?_))
       .refine sr (cq ?_);refine cq ?_;refine cq (nt (aA (br (bP (br (bP (bF ?_)))))));obtain rfl:=hR _ h;exact aL (0,0) [.eq (.pointer none),_,_] 0 ⟨rfl,rfl,rfl,trivial⟩ rfl
       .refine bq (aS (tn (ae ?_)));obtain⟨Uw,mc,h⟩:=aa h;refine jb (bG rfl mc) ?_;refine mq (nl ?_);exact jz ((),Uw) h [0]
      .refine gX (cy (cy (dE (bn ?_))));exact jz ((),()) h [0]
     .refine ae ?_;obtain⟨Uu,gw,h⟩:=aa h;refine jb (bG rfl gw) ?_;refine mq (nl ?_);exact jz ((),Uu) h [0]
    .refine xa ?_;exact jz ((),()) h [0]
   .refine sr (lo fC ?_);obtain⟨X,Ur,h⟩:=aa h;have j:=nm k a0 X Ur;rcases hr:X with _ |UD
    .rw [hr] at h j;replace h:=vy h;refine aM (Δ:=[]) (F:=_) (λ_ _ _=>ag rfl _) rfl rfl (au [.tmp 89] rfl rfl KX rfl j) ⟨rfl,trivial⟩ λ_=>?_;cases h
    .rw [hr] at h j;replace h:=vx h;refine aM (Δ:=[]) (F:=_) (λ_ _ _=>ag rfl _) rfl rfl (au [.tmp 89] rfl rfl KX rfl j) ⟨rfl,trivial⟩ λl=>?_;refine aq (nt (sr ?_));refine mq ?_;obtain⟨UB,Up,h⟩:=aa h;refine fr 1 ?_;refine fr 1 ?_;refine aM (Δ:=[_,_]) (F:=_) (λ_ _ _=>ag rfl _) rfl rfl (aU [.tmp 91] rfl rfl SH rfl (pL k UD l.1 l.2 UB Up)) ⟨rfl,trivial⟩ λ_=>?_;refine nt (sr ?_);iterate 2 refine mq ?_
     refine aq ?_;refine aq ?_;refine cq (nt (aA ?_));cases h;exact aL (l.1,l.2) [.eq (.pointer (some ⟨l.1,0,none⟩)),_,_] 2 ⟨rfl,rfl,rfl,trivial⟩ rfl
def d4(k:Nat)(a0:ab)(r5:(List (List Int)))(x9:Int):Nat->((List (List Int))×Int)->Option (List (List Int))
 |0,_=>none
 |n+1,c=>
  if c.2 < x9 then((aP r5 c.2).bind λj=>
  (cH (0≤a0.1/\a0.1≤5)).bind λ_=>
  (hJ k (List.take (Int.toNat a0.1) j)).bind λe=>
  (cH (bJ (length c.1+length [e]))).bind λ_=>
  (ck (c.2+1)).bind λh=>
  d4 k a0 r5 x9 n (c.1++[e],h)) else(some c.1)
def jg(k:Nat)(a0:ab)(a1:(List Int)):Option ((List (List Int))×Int):=
 (jG k a0 a1 ([]:(List Int)) ([]:(List Int)) ([]:(List Int))).bind λr2=>
 f8 r2.1 (if¬(r2.2.2=0) then(some (([]:(List (List Int))),r2.2.2)) else(none)) (λq3=>if¬(r2.2.2=0) then(some (([]:(List (List Int))),r2.2.2)) else((kE k q3 r2.2.1).bind λr5=>
 (((ck ((a0.2.2.2.2.1.length:Int)+1)).bind λx9=>
 d4 k a0 r5 x9 k (([]:(List (List Int))),0)):Option ((List (List Int)))).bind λx7=>
 some (x7,0)))
theorem po(k:Nat)(a0:ab)(a1:(List Int))(r:(List (List Int))×Int)(h:jg k a0 a1=some r):
 bX (dN Tryz.prog) 17 [.rep ap a0,.rep Tl a1] [] (λ_:Unit=>(bI [.rep (.slice Tl) r.1,I r.2],[])):=by
 unfold jg at h
 replace h:=bg h
 refine bX.of 43 Tryz.func17 rfl Tryz.ntmps17 rfl λS w0=>?_
 refine sr ?_
 refine bx λb1=>?_
 refine cq ?_
 refine cq ?_
 refine nt ?_
 refine sr ?_
 refine lo fC ?_
 refine mq ?_
 obtain⟨r2,X,h⟩:=aa h
 have j:=lM k a0 a1 ([]:(List Int)) ([]:(List Int)) ([]:(List Int)) r2 X
 rcases hr:r2.1 with _ |q3
 .
  rw [hr] at h j;replace h:=vy h;refine aM (Δ:=[]) (F:=_) (λ_ _ _=>ag rfl _) rfl rfl (bO (N:=[(.tmp 13,.rep ap a0),(.tmp 14,.rep Tl a1),(.const (.slice none 0 0),.eq (.slice none 0 0)),(.const (.slice none 0 0),.eq (.slice none 0 0)),(.const (.slice none 0 0),.eq (.slice none 0 0))]) (aU [.tmp 13,.tmp 14,.const (.slice none 0 0),.const (.slice none 0 0),.const (.slice none 0 0)] rfl rfl zE rfl j) λ_ _ _ hn=>⟨hn.1,hn.2.1,(aG (t:=Tl) (x:=([]:(List Int))) .nil rfl rfl hn.2.2.1),(aG (t:=Tl) (x:=([]:(List Int))) .nil rfl rfl hn.2.2.2.1),(aG (t:=Tl) (x:=([]:(List Int))) .nil rfl rfl hn.2.2.2.2.1),trivial⟩) ⟨rfl,rfl,rfl,rfl,rfl,trivial⟩ λ_=>?_;refine mq ?_;refine xr ?_;refine xr ?_;refine xr ?_;refine aq ?_;refine aq ?_;refine aq (nt (aj (sr ?_)));refine mq ?_;refine jb (fq rfl) ?_;refine nt (cn h (λh=>?_) (λh=>?_))
  .refine sr (mq ?_);refine cq ?_;refine aq (nt (rx ?_));refine bH (eu (t:=(.slice Tl)) (x:=([]:(List (List Int)))) 4 rfl .nil rfl rfl) ?_;cases h;exact rb
  .cases h
 .
  rw [hr] at h j;replace h:=vx h;refine aM (Δ:=[]) (F:=_) (λ_ _ _=>ag rfl _) rfl rfl (bO (N:=[(.tmp 13,.rep ap a0),(.tmp 14,.rep Tl a1),(.const (.slice none 0 0),.eq (.slice none 0 0)),(.const (.slice none 0 0),.eq (.slice none 0 0)),(.const (.slice none 0 0),.eq (.slice none 0 0))]) (aU [.tmp 13,.tmp 14,.const (.slice none 0 0),.const (.slice none 0 0),.const (.slice none 0 0)] rfl rfl zE rfl j) λ_ _ _ hn=>⟨hn.1,hn.2.1,(aG (t:=Tl) (x:=([]:(List Int))) .nil rfl rfl hn.2.2.1),(aG (t:=Tl) (x:=([]:(List Int))) .nil rfl rfl hn.2.2.2.1),(aG (t:=Tl) (x:=([]:(List Int))) .nil rfl rfl hn.2.2.2.2.1),trivial⟩) ⟨rfl,rfl,rfl,rfl,rfl,trivial⟩ λz4=>?_;refine mq ?_;refine xr ?_;refine xr ?_;refine xr ?_;refine aq ?_;refine aq ?_;refine aq (nt (aj (sr ?_)));refine mq ?_;refine jb (fq rfl) ?_;refine nt (cn h (λh=>?_) (λh=>?_))
  .refine sr (mq ?_);refine cq ?_;refine aq (nt (rx ?_));refine bH (eu (t:=(.slice Tl)) (x:=([]:(List (List Int)))) 4 rfl .nil rfl rfl) ?_;cases h;exact rb
  .refine sk (sr (cq (nt (sr ?_))));iterate 2 refine mq ?_
   obtain⟨r5,U,h⟩:=aa h;refine fr 1 ?_;refine fr 1 ?_;refine aM (Δ:=[_,_]) (F:=_) (λ_ _ _=>ag rfl _) rfl rfl (aU [.tmp 22,.tmp 23] rfl rfl EC rfl (oQ k q3 z4.1 z4.2 r2.2.1 r5 U)) ⟨rfl,rfl,trivial⟩ λ_=>?_;refine aV rfl rfl rfl (ba rfl Fe Im) trivial λb6=>?_;refine aH rfl rfl (aF rfl F4 rfl rfl rfl) ⟨rfl,rfl,trivial⟩ ?_;refine eE (jl (t:=(.arr 7 Tr)) (x:=r5) [10] .rep ⟨rfl,trivial⟩) ?_;refine nt (aJ (Z:=Value) (α:=(List (List Int))) (λz8 x7=>[(9,.eq z8)]) (λz8 x7=>[.sl z8 28 Tl x7,.inv z4.2 (bW k q3)]) h (λK h=>?_) (λz8 x7 h=>?_))
   .refine sr (fl dD ?_);refine fr 2 ?_;refine lo i8 ?_;refine ol xY ?_;obtain⟨x9,Q,h⟩:=aa h;refine jb (bG rfl Q) ?_;refine eX rfl ?_;refine nt (ak (iD (SE.nil 28 Tl) ?_));refine aI (λe c=>[(2,Pt b1),(9,.eq e),(10,.at (.arr 7 Tr) r5),(28,I x9),(29,I c.2)]) (λe c=>[.obj b1 25 (.rep ap a0),.sl e 28 Tl c.1,.inv z4.2 (bW k q3)]) (d4 k a0 r5 x9) k (.slice none 0 0) (([]:(List (List Int))),0) (λ_=>rfl) h (SE.fin [1,0,3] ⟨rfl,rfl,rfl,rfl,rfl,trivial⟩ rfl) (λn e c h=>?_);unfold d4 at h;refine sr (jb (bK rfl) ?_);refine nt (aj (ci h (λh=>?_) (λh=>?_)))
    .refine sk (aj (ak (sr (mq ?_))));refine aq (nt ?_);refine cO ?_;refine dm ?_;refine dm ?_;obtain⟨M,y,h⟩:=aa h;refine db (cj (t:=Tr) rfl I3 iZ y) ?_;refine da (aC rfl gI) ?_;refine ea 0 (ay rfl cQ nB rfl) ?_;obtain⟨gw,l,h⟩:=aa h;refine db (vh (t:=Ti) rfl BP cQ (am l).1 (am l).2) ?_;obtain⟨s,E,h⟩:=aa h;refine da (xZ (au [.tmp 37] rfl rfl SZ rfl (rm k (List.take (Int.toNat a0.1) M) s E))) ?_;refine da (bb (t:=Tl) [(.tmp 38,_)] [s] rfl rfl pe (.cons rfl .rep .nil) rfl rfl) ?_;refine df eo ?_;obtain⟨Y,D,h⟩:=aa h;refine fr 1 ?_;refine dV rfl rfl rfl (cp rfl rfl pe (am D)) ⟨rfl,rfl,trivial⟩ λO=>?_;refine aq (aD (aS (tn (ae ?_))));obtain⟨J,u,h⟩:=aa h;refine jb (bG rfl u) ?_;refine mq (nl ?_);exact jz (O,(c.1++[s],J)) h [1,0,2]
    .refine xa ?_;exact jz (e,c.1) h [1,2]
   .refine sr (mq ?_);refine aq ?_;refine cq (nt (aA ?_));refine bH (jo [4,9,42] ⟨rfl,rfl,rfl,trivial⟩) ?_;cases h;exact rb
def cu(k:Nat)(a0:ab)(a2:Int)(r1:(List (List Int))):Nat->Int->Option Bool
 |0,_=>none
 |n+1,y3=>
  if y3 < (a0.2.2.2.2.2.length:Int) then((aP a0.2.2.2.2.2 y3).bind λx5=>
  (((eL k a2 y3).bind λr9=>
  if¬(r9=true) then((aP r1 x5.2.1).bind λh=>
  (aP h x5.1).bind λe=>
  some (!decide ((decide (a0.2.2.1≤e))=x5.2.2))) else(some false)):Option (Bool)).bind λx7=>
  if x7=true then(some false) else((ck (y3+1)).bind λc=>
  cu k a0 a2 r1 n c)) else(some true)
def gd(k:Nat)(a0:ab)(a1:Int)(a2:Int):Option Bool:=
 (kE k a0 a1).bind λr1=>
 cu k a0 a2 r1 k 0
theorem nX(k:Nat)(a0:ab)(c z_a0:Nat)(a1:Int)(a2:Int)(r:Bool)(h:gd k a0 a1 a2=some r):
 BW (dN Tryz.prog) 119 [Pt c,.eq (.int .u8 a1),.eq (.int .u8 a2)] [.obj c 135 (aR a0 z_a0),.inv z_a0 (bW k a0)] (.iface 168 (.agg #[])) r:=by
 unfold gd at h
 replace h:=bg h
 refine BW.of 48 Tryz.func119 rfl Tryz.ntmps119 rfl λS w0=>?_
 refine sr ?_
 iterate 2 refine mq ?_
 obtain⟨r1,E,h⟩:=aa h
 have J:=oQ k a0 c z_a0 a1 r1 E
 refine fr 1 ?_
 refine fr 1 ?_
 refine aM (Δ:=[_,_]) (F:=_) (λ_ _ _=>ag rfl _) rfl rfl (aU [.tmp 9,.tmp 10] rfl rfl EC rfl J) ⟨rfl,rfl,trivial⟩ λ_=>?_
 refine aV rfl rfl rfl (ba rfl Fe Im) trivial λb2=>?_
 refine aH rfl rfl (aF rfl F4 rfl rfl rfl) ⟨rfl,rfl,trivial⟩ ?_
 refine eE (jl (t:=(.arr 7 Tr)) (x:=r1) [6] .rep ⟨rfl,trivial⟩) ?_
 refine nt ?_
 refine sr ?_
 refine mq ?_
 refine ja (cL rfl) ?_
 refine fl gV ?_
 refine fl m9 ?_
 refine lo wS ?_
 refine ol Q1 ?_
 refine eX rfl ?_
 refine nt ?_
 refine ak ?_
 refine aI (λz4 y3=>[(0,Pt c),(2,.eq (.int .u8 a2)),(6,.at (.arr 7 Tr) r1),(16,Rs aY a0.2.2.2.2.2),(17,I (a0.2.2.2.2.2.length:Int)),(18,I y3)]) (λz4 y3=>[.obj c 135 (aR a0 z_a0),.inv z_a0 (bW k a0)]) (cu k a0 a2 r1) k () 0 (λ_=>rfl) h (SE.fin [0,1] ⟨rfl,rfl,rfl,rfl,rfl,rfl,trivial⟩ rfl) (λn z4 y3 h=>?_)
 unfold cu at h
 refine sr ?_
 refine jb (bK rfl) ?_
 refine nt ?_
 refine aj ?_
 refine ci h (λh=>?_) (λh=>?_)
 .
  refine sk (aj (ak (sr (mq ?_))));obtain⟨x5,y,h⟩:=aa h;refine jb (bo (t:=aY) rfl Q1 rl y) ?_;refine ja (av (t:=aY) rfl rl rfl) ?_;refine aV rfl rfl rfl (ba rfl AC Io) trivial λb6=>?_;refine aq ?_;refine aH rfl rfl (aF rfl rl rfl rfl rfl) ⟨rfl,rfl,trivial⟩ ?_;refine nt (aJ (Z:=Unit) (α:=Bool) (λz8 x7=>[(0,Pt c),(2,.eq (.int .u8 a2)),(6,.at (.arr 7 Tr) r1),(16,Rs aY a0.2.2.2.2.2),(17,I (a0.2.2.2.2.2.length:Int)),(18,I y3),(44,.eq (.bool x7))]) (λz8 x7=>[.obj c 135 (aR a0 z_a0),.inv z_a0 (bW k a0)]) h (λK h=>?_) (λz8 x7 h=>?_))
  .refine cO ?_;refine dm ?_;refine dm ?_;obtain⟨r9,D,h⟩:=aa h;refine db (au [.tmp 23,.tmp 24] rfl rfl HZ rfl (gx k a2 y3 r9 D)) ?_;refine da (iK rfl) ?_;refine yg rfl rfl rfl (bD rfl) ⟨rfl,trivial⟩ (λhb=>?_) (λhb=>?_)
   .replace h:=eU (yU hb) h;refine dR rfl rfl rfl rfl rfl (aC rfl Bv) ⟨rfl,rfl,trivial⟩ ?_;refine kJ 0 rfl rfl rfl rfl rfl rfl (ay rfl cQ nB rfl) ⟨rfl,rfl,trivial⟩ ?_;refine dR rfl rfl rfl rfl rfl (aC rfl Bw) ⟨rfl,rfl,trivial⟩ ?_;refine kJ 0 rfl rfl rfl rfl rfl rfl (ay rfl cQ nB rfl) ⟨rfl,rfl,trivial⟩ ?_;obtain⟨M,l,h⟩:=aa h;refine dR rfl rfl rfl rfl rfl (cj (t:=Tr) rfl I3 iZ l) ⟨rfl,rfl,rfl,trivial⟩ ?_;obtain⟨u,j,h⟩:=aa h;refine dR rfl rfl rfl rfl rfl (cj (t:=Ti) rfl BP cQ j) ⟨rfl,rfl,rfl,trivial⟩ ?_;refine dR rfl rfl rfl rfl rfl (av (t:=Ti) rfl cQ rfl) ⟨rfl,rfl,trivial⟩ ?_;refine dR rfl rfl rfl rfl rfl (bD rfl) ⟨rfl,rfl,trivial⟩ ?_;refine dR rfl rfl rfl rfl rfl (cL rfl) ⟨rfl,rfl,trivial⟩ ?_;refine dR rfl rfl rfl rfl rfl (aC rfl gV) ⟨rfl,rfl,trivial⟩ ?_;refine dR rfl rfl rfl rfl rfl (aC rfl xC) ⟨rfl,rfl,trivial⟩ ?_;refine kJ 1 rfl rfl rfl rfl rfl rfl (ay rfl cQ nB rfl) ⟨rfl,rfl,trivial⟩ ?_;refine dR rfl rfl rfl rfl rfl (ko rfl) ⟨rfl,rfl,rfl,trivial⟩ ?_;refine dR rfl rfl rfl rfl rfl (aC rfl HS) ⟨rfl,rfl,trivial⟩ ?_;refine kJ 0 rfl rfl rfl rfl rfl rfl (ay rfl TN nB rfl) ⟨rfl,rfl,trivial⟩ ?_;refine df eo ?_;refine gb (NZ rfl U4) ?_;refine pt (nl ?_);exact jz ((), !decide ((decide (a0.2.2.1≤u))=x5.2.2)) h [1,2]
   .replace h:=cV (sH hb) h;iterate 15 refine dg ?_
    refine df eo ?_;refine gn ?_;refine pf (nl ?_);exact jz ((),false) h [1,2]
  .refine cv h (λh=>?_) (λh=>?_)
   .refine ae (cg rfl (GU rfl OO Pl) trivial ?_);refine ja (GQ rfl OO) ?_;refine E3 rfl rfl rfl rfl ?_;refine Ak ?_;refine sE ?_;refine sE ?_;refine Ak ?_;refine bH (SE.fin (Γ':=[]) [0,1] trivial rfl) ?_;cases h;exact LN
   .refine bq (aS (tn (ae ?_)));obtain⟨s,e,h⟩:=aa h;refine jb (bG rfl e) ?_;refine mq (nl ?_);exact jz ((),s) h [0,1]
 .
  refine gX (cy (cy (dE (jU ?_))));refine bH (SE.fin (Γ':=[]) [0,1] trivial rfl) ?_;cases h;exact aL () [] 2 trivial rfl
def cZ(k:Nat)(a0:ab)(a1:Int)(a2:Int):Option Bool:=gd k a0 a1 a2
theorem MA:OP Tryz.prog 168 (.agg #[]):=⟨⟨_,OO⟩,λw=>by kernel_rfl⟩
theorem H3:∀(S:FS) (w:World),(A.rep (.arr 0 Ti) []).holds S w (.agg #[]):=λ_ _=>⟨[],⟨rfl,rfl⟩,rfl⟩
theorem L0:∀w,(zeroValue 168).run Tryz.prog w= .ok (.agg #[]) w:=λw=>by kernel_rfl
theorem MY:∀S w,(A.cells S w (.rep (.arr 0 Ti) []) (Value.cells (.agg #[])).toList):=λ_ _=>⟨rfl,rfl⟩
theorem MB:dY Tryz.prog 168 0 true:=⟨λw=>by kernel_rfl,λw=>by kernel_rfl⟩
theorem QL:ah Tryz.prog 118:=ah.of Tryz.func118 (by kernel_rfl) (by kernel_rfl)
theorem MM:ah Tryz.prog 119:=ah.of Tryz.func119 (by kernel_rfl) (by kernel_rfl)
theorem Jp:dY Tryz.prog 4 1 false:=⟨λw=>by kernel_rfl,λw=>by kernel_rfl⟩
theorem RI:∀w,(zeroValue 4).run Tryz.prog w= .ok (.bool false) w:=λw=>by kernel_rfl
theorem Tu:∀S w,(A.cells S w (.eq (.bool false)) (Value.cells (.bool false)).toList):=λ_ _=>⟨rfl,rfl⟩
theorem zN:yh Tryz.prog 118 (.iface 168 (.agg #[])) 4 (.bool false):=by
 refine⟨QL,λM e0=>?_,λM e0=>?_⟩
 .refine lC.of (M:=M) (m:=.returning) (m1:=.returning) (val:=.nilIface) Tryz.func118 rfl rfl (by decide) rfl rfl (by decide) (λρ=>rfl) (λfr b cs hb hm=>Gu hb hm rfl) (.inl rfl) λb S w0=>?_;refine ja (JQ H3 rfl MA) ?_;refine mq ?_;refine xr ?_;refine xr ?_;refine aV rfl rfl rfl (ba rfl L0 MY) trivial λb1=>?_;refine aH rfl rfl (aF rfl MB rfl rfl rfl) ⟨rfl,rfl,trivial⟩ ?_;refine aq (nt (sr ?_));refine mq (nt ?_);refine iW rfl (λhb=>by cases hb) (λhb=>?_);refine bq (jU ?_);refine bH (SE.fin (Γ':=[]) [1] trivial rfl) ?_;exact aL () [] 1 trivial rfl
 .refine lC.of (M:=M) (m:=.panicking (g9 (.iface 168 (.agg #[])) false)) (m1:=.panicking (g9 (.iface 168 (.agg #[])) true)) (val:=.iface 168 (.agg #[])) Tryz.func118 rfl rfl (by decide) rfl rfl (by decide) (λρ=>rfl) (λfr b cs hb hm=>Gt hb hm) (.inr ⟨_,rfl⟩) λb S w0=>?_;refine ja (JP H3 rfl MA) ?_;refine mq ?_;refine xr ?_;refine xr ?_;refine aV rfl rfl rfl (ba rfl L0 MY) trivial λb1=>?_;refine aH rfl rfl (aF rfl MB rfl rfl rfl) ⟨rfl,rfl,trivial⟩ ?_;refine aq (nt (sr ?_));refine mq (nt ?_);refine iW rfl (λhb=>?_) (λhb=>by cases hb);refine ae (fr 1 ?_);refine aH rfl rfl (aF rfl Jp rfl rfl rfl) ⟨rfl,rfl,trivial⟩ ?_;refine aD (jU ?_);refine bH (SE.fin (Γ':=[]) [0] trivial rfl) ?_;exact aL () [] 1 trivial rfl
theorem ny(k:Nat)(a0:ab)(c z_a0:Nat)(a1:Int)(a2:Int)(r:Bool)(h:cZ k a0 a1 a2=some r):
 bX (dN Tryz.prog) 101 [Pt c,.eq (.int .u8 a1),.eq (.int .u8 a2)] (qe a0 c z_a0 k) (λ_:Unit=>(bI [.eq (.bool r)],qe a0 c z_a0 k)):=by
 have cr:=nX k a0 c z_a0 a1 a2 r h
 refine Ao 12 Tryz.func101 rfl Tryz.ntmps101 rfl λS w0=>?_
 refine sr ?_
 refine aV rfl rfl rfl (ba rfl RI Tu) trivial λb6=>?_
 refine nt ?_
 refine sr ?_
 refine ja (rD [] [.tmp 6] [] [(Pv b6)] rfl rfl rfl) ?_
 refine IL rfl rfl rfl rfl rfl ?_
 refine nt ?_
 refine sr ?_
 iterate 3 refine mq ?_
 refine fr 2 ?_
 refine fr 2 ?_
 cases r with
 |false=>
  refine IM (Ss:=[Pt c,.eq (.int .u8 a1),.eq (.int .u8 a2)]) (Δ:=qe a0 c z_a0 k) (F:=[.obj b6 4 (.eq (.bool false))]) [.tmp 8,.tmp 9,.tmp 10] rfl rfl rfl rfl MM ⟨rfl,rfl,rfl,trivial⟩ cr ?_;refine sE ?_;refine bH (SE.fin (Γ':=[(6,_)]) [2,0,1] ⟨rfl,trivial⟩ rfl) ?_;refine E4 zN ?_;refine bH (SE.fin (Γ':=[(6,_)]) [1,2,0] ⟨rfl,trivial⟩ rfl) ?_;exact aL () [.eq (.bool false)] 2 ⟨⟨_,_,_,_,_,rfl,(.tail _ (.tail _ (.head _))),Jp,(λ_=>rfl),rfl⟩,trivial⟩ rfl
 |true=>
  refine aM (Δ:=qe a0 c z_a0 k) (F:=[.obj b6 4 (.eq (.bool false))]) (λ_ _ _=>ag rfl _) rfl rfl (aU [.tmp 8,.tmp 9,.tmp 10] rfl rfl MM rfl cr.ok) ⟨rfl,rfl,rfl,trivial⟩ λ_=>?_;refine nt (sr (fr 2 ?_));refine aH rfl rfl (aF rfl Jp rfl rfl rfl) ⟨rfl,rfl,trivial⟩ ?_;refine nt (aA (LM zN ?_));refine bH (SE.fin (Γ':=[(6,_)]) [1,2,0] ⟨rfl,trivial⟩ rfl) ?_;exact aL () [.eq (.bool true)] 2 ⟨⟨_,_,_,_,_,rfl,(.tail _ (.tail _ (.head _))),Jp,(λ_=>rfl),rfl⟩,trivial⟩ rfl
def eh(k:Nat)(a0:ab)(a1:Int):Option (List Int):=
 (jI k (ql (λ(y5:(List Int)) (p7:Int)=>
  (cZ k a0 p7 a1).bind λr9=>
  if r9=true then((cH (bJ (length y5+length [p7]))).bind λ_=>
  some (y5++[p7],true)) else(some (y5,true)))) a0.1 (([]:(List Int)),false)).bind λr8=>
 if r8.2=true then(none) else(some r8.1)
theorem kp(k:Nat)(a0:ab)(c z_a0:Nat)(a1:Int)(r:(List Int))(h:eh k a0 a1=some r):
 bX (dN Tryz.prog) 68 [Pt c,.eq (.int .u8 a1)] [.obj c 135 (aR a0 z_a0),.inv z_a0 (bW k a0)] (λ_:Unit=>(bI [.rep (.slice (.int .u8)) r],[.obj c 135 (aR a0 z_a0),.inv z_a0 (bW k a0)])):=by
 unfold eh at h
 replace h:=bg h
 refine uS 23 Tryz.func68 rfl Tryz.ntmps68 rfl λS w0=>?_
 refine sr ?_
 refine bx λb1=>?_
 refine bx λb2=>?_
 refine cq ?_
 refine nt ?_
 refine sr ?_
 refine aV rfl rfl rfl (ba rfl I5 Lq) trivial λb3=>?_
 refine nt ?_
 refine aj ?_
 refine sr ?_
 refine fr 2 ?_
 refine lo Jo ?_
 refine ja (cL rfl) ?_
 refine fl gV ?_
 refine fl gI ?_
 refine fr 3 ?_
 refine lo cQ ?_
 refine aV rfl rfl rfl (au [.tmp 11] rfl rfl Qw rfl (qG a0.1)) ⟨rfl,trivial⟩ λb4=>?_
 refine nt ?_
 refine ak ?_
 refine iD (SE.nil 78 (.int .u8)) ?_
 refine dx 6 rfl ?_
 refine dx 6 rfl ?_
 refine dx 2 rfl ?_
 refine dx 6 rfl ?_
 refine dx 6 rfl ?_
 refine dx 6 rfl ?_
 refine dx 6 rfl ?_
 obtain⟨r8,s,h⟩:=aa h
 refine qW (Δ:=[.obj b4 3 (I a0.1),.obj c 135 (aR a0 z_a0),.obj b1 77 (Pt c),.obj b3 92 (.eq (.slice none 0 0)),.sl (.slice none 0 0) 78 (.int .u8) ([]:(List Int)),.obj b2 78 (.eq (.int .u8 a1)),.inv z_a0 (bW k a0)]) (F:=[]) (X:=Value) (J:=λ_=>Pe r8.2) (E:=λz6=>[.obj b4 3 (I a0.1),.obj c 135 (aR a0 z_a0),.obj b1 77 (Pt c),.obj b3 92 (.eq z6),.sl z6 78 (.int .u8) r8.1,.obj b2 78 (.eq (.int .u8 a1)),.inv z_a0 (bW k a0)]) (r0:=λ_=>.tup .any) rfl rfl MO (λrec hp ha hb hs hpe hN hv l=>?_) (λdl z6=>tJ (λhj=>?_) (λhj=>?_))
 .
  rcases rec with⟨st0,pe0,fn0,tm0,ps0,as0,bd0,df0⟩;dsimp only at hp ha hb hs hpe hN hv;subst hp hs hpe;have vN:Ae tm0 [(2,Pt b1),(3,Pt b2),(5,Pt b3)]:=⟨congrArg A.eq (hv 2 _ rfl).symm,congrArg A.eq (hv 3 _ rfl).symm,congrArg A.eq (hv 5 _ rfl).symm,trivial⟩;refine bX.pick (M:=(dN Tryz.prog)) [1,0,2,3,4,5,6,7] [1,0,2,3,4,5,6,7] (nY (λ(z6:Value) (q:(List Int)×Bool)=>[.raw l (.loop (jZ ⟨.ready,none,fn0,tm0, #[13],as0,bd0,df0⟩ (Pe q.2))),.obj c 135 (aR a0 z_a0),.obj b1 77 (Pt c),.obj b3 92 (.eq z6),.sl z6 78 (.int .u8) q.1,.obj b2 78 (.eq (.int .u8 a1)),.inv z_a0 (bW k a0)]) l (ql (λ(y5:(List Int)) (p7:Int)=>
  (cZ k a0 p7 a1).bind λr9=>
  if r9=true then((cH (bJ (length y5+length [p7]))).bind λ_=>
  some (y5++[p7],true)) else(some (y5,true)))) k a0.1 b4 (λz6 q p r' h=>?_) (.slice none 0 0) (([]:(List Int)),false) r8 s) rfl (λ_=>rfl) (λ_=>rfl)
  obtain⟨rq,hq,h2,rfl⟩:=tK h;obtain⟨y5,b5⟩:=q;obtain rfl:b5=false:=hq;replace h:=bg h2;obtain⟨p7,hpv⟩:∃x,x=p:=⟨_,rfl⟩;subst hpv;refine YT.pick (R':=(λz6:Value=>(.eq (.bool rq.2),[.raw l (.loop (jZ ⟨.ready,none,fn0,tm0, #[13],as0,bd0,df0⟩ (Pe (!rq.2)))),.obj c 135 (aR a0 z_a0),.obj b1 77 (Pt c),.obj b3 92 (.eq z6),.sl z6 78 (.int .u8) rq.1,.obj b2 78 (.eq (.int .u8 a1)),.inv z_a0 (bW k a0)]))) [0,1,2,3,4,5,6] [0,1,2,3,4,5,6] (Ir ha hb (N:=23) (Γ:=[(2,Pt b1),(3,Pt b2),(5,Pt b3)]) rfl hN (by decide) vN (λS w=>?_)) rfl (λ_=>rfl) (λ_=>rfl);refine ae (aq (nl ?_));refine Am rfl rfl ?_;refine ak (sr (fr 2 ?_));refine lo Jo ?_;refine mq ?_;refine fr 5 ?_;refine lo pz ?_;obtain⟨r9,n,h⟩:=aa h;refine fr 6 ?_;refine fr 4 ?_;refine aM (Δ:=[_,_]) (F:=_) (λ_ _ _=>ag rfl _) rfl rfl (aU [.tmp 14,.tmp 15,.tmp 16] rfl rfl QR rfl (ny k a0 c z_a0 p7 a1 r9 n)) ⟨rfl,rfl,rfl,trivial⟩ λ_=>?_;refine nt (cv h (λh=>?_) (λh=>?_))
  .refine ae (fr 5 ?_);refine lo wR ?_;refine mq ?_;refine ja (bb (t:=(.int .u8)) [(.tmp 19,_)] [p7] rfl rfl Jz (.cons rfl .int .nil) rfl rfl) ?_;obtain⟨u,e,h⟩:=aa h;refine fr 6 ?_;refine dV rfl rfl rfl (cp rfl rfl Jz (am e)) ⟨rfl,rfl,trivial⟩ λj=>?_;refine nh λo12=>?_;refine fr 1 ?_;refine aH rfl rfl (aF rfl wR o12 rfl rfl) ⟨rfl,rfl,trivial⟩ ?_;refine aD (aS (bi 3 rfl ?_));refine bi 4 rfl ?_;refine bi 3 rfl ?_;refine bi 3 rfl ?_;refine bi 5 rfl ?_;refine bi 5 rfl ?_;refine bi 6 rfl ?_;cases h;exact o7 j 6 rfl
  .refine bq (aS (bi 1 rfl ?_));refine bi 2 rfl ?_;refine bi 6 rfl ?_;refine bi 6 rfl ?_;refine bi 5 rfl ?_;refine bi 5 rfl ?_;refine bi 6 rfl ?_;cases h;exact o7 z6 6 rfl
 .
  replace h:=cV (Nq hj) h;refine aS (tn (sr (fr 4 ?_)));refine lo wR ?_;refine aq (nt (aA ?_));refine bi 5 rfl ?_;refine bH (jm (off:=0) [4,22] ⟨rfl,rfl,trivial⟩ rfl rfl) ?_;refine bi 1 rfl ?_;refine DJ ?_;refine bH (SE.fin (Γ':=[(4,_)]) [2,5,0,1,3,4] ⟨rfl,trivial⟩ rfl) ?_;cases h;exact aL () [_] 2 ⟨rfl,trivial⟩ rfl
 .
  replace h:=eU (Np hj) h;cases h
def jf(k:Nat)(a0:ab)(a1:(List Int))(a2:(List Int))(a3:(List Int)):Option ((Option ab)×(List Int)×Int):=
 (jG k a0 ([]:(List Int)) a1 a2 a3).bind λr2=>
 f8 r2.1 (if¬(r2.2.2=0) then(some (none,([]:(List Int)),r2.2.2)) else(none)) (λq3=>if¬(r2.2.2=0) then(some (none,([]:(List Int)),r2.2.2)) else((eh k q3 0).bind λr5=>
 if(r5.length:Int)=0 then(some (none,([]:(List Int)),9)) else(some (some q3,r5,0))))
theorem mQ(k:Nat)(a0:ab)(a1:(List Int))(a2:(List Int))(a3:(List Int))(r:(Option ab)×(List Int)×Int)(h:jf k a0 a1 a2 a3=some r):
 bX (dN Tryz.prog) 60 [.rep ap a0,.rep Tl a1,.rep Tl a2,.rep Tl a3] [] (λz:Nat×Nat=>(bI [JL r.1 z.1,.rep (.slice (.int .u8)) r.2.1,I r.2.2],JK r.1 λq=>qe q z.1 z.2 k)):=by
 unfold jf at h
 replace h:=bg h
 refine bX.of 34 Tryz.func60 rfl Tryz.ntmps60 rfl λS w0=>?_
 refine sr ?_
 refine bx λb1=>?_
 refine cq ?_
 refine cq ?_
 refine cq ?_
 refine nt ?_
 refine sr ?_
 refine lo fC ?_
 iterate 3 refine mq ?_
 obtain⟨r2,j,h⟩:=aa h
 have c:=lM k a0 ([]:(List Int)) a1 a2 a3 r2 j
 rcases hr:r2.1 with _ |q3
 .
  rw [hr] at h c;replace h:=vy h;refine aM (Δ:=[]) (F:=_) (λ_ _ _=>ag rfl _) rfl rfl (bO (N:=[(.tmp 16,.rep ap a0),(.const (.slice none 0 0),.eq (.slice none 0 0)),(.tmp 17,.rep Tl a1),(.tmp 18,.rep Tl a2),(.tmp 19,.rep Tl a3)]) (aU [.tmp 16,.const (.slice none 0 0),.tmp 17,.tmp 18,.tmp 19] rfl rfl zE rfl c) λ_ _ _ hn=>⟨hn.1,(aG (t:=Tl) (x:=([]:(List Int))) .nil rfl rfl hn.2.1),hn.2.2.1,hn.2.2.2.1,hn.2.2.2.2.1,trivial⟩) ⟨rfl,rfl,rfl,rfl,rfl,trivial⟩ λ_=>?_;refine mq ?_;refine xr ?_;refine xr ?_;refine xr ?_;refine aq ?_;refine aq ?_;refine aq (nt (aj (sr ?_)));refine mq ?_;refine jb (fq rfl) ?_;refine nt (cn h (λh=>?_) (λh=>?_))
  .refine sr (mq ?_);refine cq ?_;refine cq ?_;refine aq (nt (rx ?_));refine bH (eu (t:=(.slice (.int .u8))) (x:=([]:(List Int))) 9 rfl .nil rfl rfl) ?_;cases h;exact aL (0,0) [.eq (.pointer none),_,_] 0 ⟨rfl,rfl,rfl,trivial⟩ rfl
  .cases h
 .
  rw [hr] at h c;replace h:=vx h;refine aM (Δ:=[]) (F:=_) (λ_ _ _=>ag rfl _) rfl rfl (bO (N:=[(.tmp 16,.rep ap a0),(.const (.slice none 0 0),.eq (.slice none 0 0)),(.tmp 17,.rep Tl a1),(.tmp 18,.rep Tl a2),(.tmp 19,.rep Tl a3)]) (aU [.tmp 16,.const (.slice none 0 0),.tmp 17,.tmp 18,.tmp 19] rfl rfl zE rfl c) λ_ _ _ hn=>⟨hn.1,(aG (t:=Tl) (x:=([]:(List Int))) .nil rfl rfl hn.2.1),hn.2.2.1,hn.2.2.2.1,hn.2.2.2.2.1,trivial⟩) ⟨rfl,rfl,rfl,rfl,rfl,trivial⟩ λz4=>?_;refine mq ?_;refine xr ?_;refine xr ?_;refine xr ?_;refine aq ?_;refine aq ?_;refine aq (nt (aj (sr ?_)));refine mq ?_;refine jb (fq rfl) ?_;refine nt (cn h (λh=>?_) (λh=>?_))
  .refine sr (mq ?_);refine cq ?_;refine cq ?_;refine aq (nt (rx ?_));refine bH (eu (t:=(.slice (.int .u8))) (x:=([]:(List Int))) 9 rfl .nil rfl rfl) ?_;cases h;exact aL (0,0) [.eq (.pointer none),_,_] 0 ⟨rfl,rfl,rfl,trivial⟩ rfl
  .refine sk (sr (mq ?_));obtain⟨r5,e,h⟩:=aa h;refine fr 1 ?_;refine fr 1 ?_;refine aM (Δ:=[_,_]) (F:=_) (λ_ _ _=>ag rfl _) rfl rfl (aU [.tmp 27,.const (.int .u8 (0))] rfl rfl Qy rfl (kp k q3 z4.1 z4.2 0 r5 e)) ⟨rfl,rfl,trivial⟩ λ_=>?_;refine aq (nt (aj (sr ?_)));refine mq ?_;refine ol AA ?_;refine jb (gu rfl) ?_;refine nt (ci h (λh=>?_) (λh=>?_))
   .refine sr (cq ?_);refine cq ?_;refine cq (nt (rx ?_));refine bH (eu (t:=(.slice (.int .u8))) (x:=([]:(List Int))) 9 rfl .nil rfl rfl) ?_;cases h;exact aL (0,0) [.eq (.pointer none),_,_] 0 ⟨rfl,rfl,rfl,trivial⟩ rfl
   .refine sk (sr ?_);iterate 2 refine mq ?_
    refine aq ?_;refine aq ?_;refine cq (nt (aA ?_));cases h;exact aL (z4.1,z4.2) [.eq (.pointer (some ⟨z4.1,0,none⟩)),_,_] 2 ⟨rfl,rfl,rfl,trivial⟩ rfl
def gz(k:Nat)(a0:ab)(a1:Int)(r2:(Option ab)×(List Int)×Int)(q3:ab)(y7:(List Int)×Int):Nat->(Int×Int)->Option Int
 |0,_=>none
 |n+1,c=>
  if c.2 < (r2.2.1.length:Int) then((((aP r2.2.1 c.2).bind λr=>
  (kE k q3 r).bind λu=>
  (aP u a1).bind λl=>
  (aP l y7.2).bind λj=>
  if a0.2.2.1≤j then((ck (c.1+1)).bind λh=>
  some h) else(some c.1)):Option (Int)).bind λs=>
  (ck (c.2+1)).bind λe=>
  gz k a0 a1 r2 q3 y7 n (s,e)) else(some c.1)
def fx(k:Nat)(a0:ab)(a1:Int)(r2:(Option ab)×(List Int)×Int)(q3:ab):Nat->((List Int)×Int)->Option (List Int)
 |0,_=>none
 |n+1,y7=>
  if y7.2 < a0.1 then(((((gz k a0 a1 r2 q3 y7 k (0,0)):Option (Int)).bind λc=>
  (ck ((r2.2.1.length:Int) - c)).bind λe=>
  (cH (bJ (length y7.1+length [nz c e]))).bind λ_=>
  some (y7.1++[nz c e])):Option ((List Int))).bind λx9=>
  (ck (y7.2+1)).bind λh=>
  fx k a0 a1 r2 q3 n (x9,h)) else(some y7.1)
def mj(k:Nat)(a0:ab)(a1:Int):Option (Int×Int×Int):=
 (jf k a0 ([]:(List Int)) ([]:(List Int)) [a1]).bind λr2=>
 f8 r2.1 (if¬(r2.2.2=0) then(some (0,0,r2.2.2)) else(none)) (λq3=>if¬(r2.2.2=0) then(some (0,0,r2.2.2)) else(((fx k a0 a1 r2 q3 k (([]:(List Int)),0)):Option ((List Int))).bind λx5=>
 (ix k x5).bind λc=>
 if(r2.2.1.length:Int)≤c then(some (0,0,11)) else((fZ k x5 c).bind λe=>
 some (e,c,0))))
theorem sL(k:Nat)(a0:ab)(a1:Int)(r:Int×Int×Int)(h:mj k a0 a1=some r):
 bX (dN Tryz.prog) 25 [.rep ap a0,I a1] [] (λ_:Unit=>(bI [I r.1,I r.2.1,I r.2.2],[])):=by
 unfold mj at h
 replace h:=bg h
 refine bX.of 71 Tryz.func25 rfl Tryz.ntmps25 rfl λS w0=>?_
 refine sr ?_
 refine bx λb1=>?_
 refine cq ?_
 refine cq ?_
 refine cq ?_
 refine nt ?_
 refine sr ?_
 refine lo fC ?_
 refine mq ?_
 refine ja (bb (t:=Ti) [(.tmp 18,_)] [a1] rfl rfl dS (.cons rfl .int .nil) rfl rfl) ?_
 obtain⟨r2,Us,h⟩:=aa h
 have s:=mQ k a0 ([]:(List Int)) ([]:(List Int)) [a1] r2 Us
 rcases hr:r2.1 with _ |q3
 .
  rw [hr] at h s;replace h:=vy h;refine aM (Δ:=[]) (F:=_) (λ_ _ _=>ag rfl _) rfl rfl (bO (N:=[(.tmp 17,.rep ap a0),(.const (.slice none 0 0),.eq (.slice none 0 0)),(.const (.slice none 0 0),.eq (.slice none 0 0)),(.tmp 19,.rep Tl [a1])]) (aU [.tmp 17,.const (.slice none 0 0),.const (.slice none 0 0),.tmp 19] rfl rfl EB rfl s) λ_ _ _ hn=>⟨hn.1,(aG (t:=Tl) (x:=([]:(List Int))) .nil rfl rfl hn.2.1),(aG (t:=Tl) (x:=([]:(List Int))) .nil rfl rfl hn.2.2.1),hn.2.2.2.1,trivial⟩) ⟨rfl,rfl,rfl,rfl,trivial⟩ λ_=>?_;refine mq ?_;refine xr ?_;refine xr ?_;refine xr ?_;refine aq ?_;refine aq ?_;refine aq (nt (aj (sr ?_)));refine mq ?_;refine jb (fq rfl) ?_;refine nt (cn h (λh=>?_) (λh=>?_))
  .refine sr (mq ?_);refine cq ?_;refine cq ?_;refine aq (nt (rx ?_));cases h;exact aL () [_,_,_] 0 ⟨rfl,rfl,rfl,trivial⟩ rfl
  .cases h
 .
  rw [hr] at h s;replace h:=vx h;refine aM (Δ:=[]) (F:=_) (λ_ _ _=>ag rfl _) rfl rfl (bO (N:=[(.tmp 17,.rep ap a0),(.const (.slice none 0 0),.eq (.slice none 0 0)),(.const (.slice none 0 0),.eq (.slice none 0 0)),(.tmp 19,.rep Tl [a1])]) (aU [.tmp 17,.const (.slice none 0 0),.const (.slice none 0 0),.tmp 19] rfl rfl EB rfl s) λ_ _ _ hn=>⟨hn.1,(aG (t:=Tl) (x:=([]:(List Int))) .nil rfl rfl hn.2.1),(aG (t:=Tl) (x:=([]:(List Int))) .nil rfl rfl hn.2.2.1),hn.2.2.2.1,trivial⟩) ⟨rfl,rfl,rfl,rfl,trivial⟩ λz4=>?_;refine mq ?_;refine xr ?_;refine xr ?_;refine xr ?_;refine aq ?_;refine aq ?_;refine aq (nt (aj (sr ?_)));refine mq ?_;refine jb (fq rfl) ?_;refine nt (cn h (λh=>?_) (λh=>?_))
  .refine sr (mq ?_);refine cq ?_;refine cq ?_;refine aq (nt (rx ?_));cases h;exact aL () [_,_,_] 0 ⟨rfl,rfl,rfl,trivial⟩ rfl
  .refine sk (sr (cq (nt ?_)));refine aJ (Z:=Value) (α:=(List Int)) (λz6 x5=>[(8,.rep (.slice (.int .u8)) r2.2.1),(10,.eq z6)]) (λz6 x5=>[.sl z6 3 Ti x5,.inv z4.2 (bW k q3)]) h (λK h=>?_) (λz6 x5 h=>?_)
   .refine sr (fl gI ?_);refine fr 2 ?_;refine lo cQ ?_;refine eX rfl ?_;refine nt (ak (iD (SE.nil 3 Ti) ?_));refine aI (λz8 y7=>[(1,I a1),(2,Pt b1),(7,.eq (.pointer (some ⟨z4.1,0,none⟩))),(8,.rep (.slice (.int .u8)) r2.2.1),(10,.eq z8),(28,I a0.1),(29,I y7.2)]) (λz8 y7=>[.obj b1 25 (.rep ap a0),.obj z4.1 135 (aR q3 z4.2),.sl z8 3 Ti y7.1,.inv z4.2 (bW k q3)]) (fx k a0 a1 r2 q3) k (.slice none 0 0) (([]:(List Int)),0) (λ_=>rfl) h (SE.fin [1,2,0,3] ⟨rfl,rfl,rfl,rfl,rfl,rfl,rfl,trivial⟩ rfl) (λn z8 y7 h=>?_);unfold fx at h;refine sr (jb (bK rfl) ?_);refine nt (aj (ci h (λh=>?_) (λh=>?_)))
    .refine sk (aJ (Z:=Value) (α:=(List Int)) (λe x9=>[(1,I a1),(2,Pt b1),(7,.eq (.pointer (some ⟨z4.1,0,none⟩))),(8,.rep (.slice (.int .u8)) r2.2.1),(10,.eq e),(28,I a0.1),(29,I y7.2)]) (λe x9=>[.obj b1 25 (.rep ap a0),.obj z4.1 135 (aR q3 z4.2),.sl e 3 Ti x9,.inv z4.2 (bW k q3)]) h (λK h=>?_) (λe x9 h=>?_))
     .refine ak (sr (mq ?_));refine aq (nt (sr ?_));refine cq (nt ?_);refine aJ (Z:=Unit) (α:=Int) (λE j=>[(1,I a1),(2,Pt b1),(7,.eq (.pointer (some ⟨z4.1,0,none⟩))),(8,.rep (.slice (.int .u8)) r2.2.1),(10,.eq z8),(12,I j),(28,I a0.1),(29,I y7.2)]) (λE j=>[.obj b1 25 (.rep ap a0),.obj z4.1 135 (aR q3 z4.2),.sl z8 3 Ti y7.1,.inv z4.2 (bW k q3)]) h (λK h=>?_) (λE j h=>?_)
      .refine sr (mq ?_);refine ol AA ?_;refine eX rfl ?_;refine nt (ak (aI (λD c=>[(1,I a1),(2,Pt b1),(7,.eq (.pointer (some ⟨z4.1,0,none⟩))),(8,.rep (.slice (.int .u8)) r2.2.1),(10,.eq z8),(11,I y7.2),(12,I c.1),(28,I a0.1),(29,I y7.2),(32,.rep (.slice (.int .u8)) r2.2.1),(33,I (r2.2.1.length:Int)),(34,I c.2)]) (λD c=>[.obj b1 25 (.rep ap a0),.obj z4.1 135 (aR q3 z4.2),.sl z8 3 Ti y7.1,.inv z4.2 (bW k q3)]) (gz k a0 a1 r2 q3 y7) k () (0,0) (λ_=>rfl) h (SE.fin [0,1,2,3] ⟨rfl,rfl,rfl,rfl,rfl,rfl,rfl,rfl,rfl,rfl,rfl,rfl,trivial⟩ rfl) (λn D c h=>?_)));unfold gz at h;refine sr (jb (bK rfl) ?_);refine nt (aj (ci h (λh=>?_) (λh=>?_)))
       .refine sk (aJ (Z:=Unit) (α:=Int) (λy l=>[(1,I a1),(2,Pt b1),(7,.eq (.pointer (some ⟨z4.1,0,none⟩))),(8,.rep (.slice (.int .u8)) r2.2.1),(10,.eq z8),(11,I y7.2),(12,I l),(28,I a0.1),(29,I y7.2),(32,.rep (.slice (.int .u8)) r2.2.1),(33,I (r2.2.1.length:Int)),(34,I c.2)]) (λy l=>[.obj b1 25 (.rep ap a0),.obj z4.1 135 (aR q3 z4.2),.sl z8 3 Ti y7.1,.inv z4.2 (bW k q3)]) h (λK h=>?_) (λy l h=>?_))
        .refine ak (sr ?_);obtain⟨Un,gw,h⟩:=aa h;refine jb (bo (t:=(.int .u8)) rfl AA pz gw) ?_;refine ja (av (t:=(.int .u8)) rfl pz rfl) ?_;refine aq (nt (aj ?_));refine cO ?_;refine dm ?_;refine dm ?_;obtain⟨Ur,zz,h⟩:=aa h;refine O1 1 3 rfl rfl (by kernel_rfl) rfl rfl rfl (aU [.tmp 38,.tmp 39] rfl rfl EC rfl (oQ k q3 z4.1 z4.2 Un Ur zz)) ⟨rfl,rfl,trivial⟩ ?_;refine dm ?_;obtain⟨Uu,Y,h⟩:=aa h;refine db (nR (t:=Tr) rfl I3 iZ rfl rfl (tq) Y) ?_;refine dm ?_;obtain⟨Ut,X,h⟩:=aa h;refine db (nR (t:=Ti) rfl BP cQ rfl rfl (λ_=>rfl) X) ?_;refine da (aC rfl xC) ?_;refine ea 0 (ay rfl cQ nB rfl) ?_;refine df eo ?_;refine jb (ko rfl) ?_;refine nt (ci h (λh=>?_) (λh=>?_))
         .refine ae (mq ?_);obtain⟨Um,U,h⟩:=aa h;refine jb (bG rfl U) ?_;refine aq (aD (bn ?_));exact jz ((),Um) h [0,1,2,3]
         .refine bq (bn ?_);exact jz ((),c.1) h [0,1,2,3]
        .refine ae ?_;obtain⟨Ul,Q,h⟩:=aa h;refine jb (bG rfl Q) ?_;refine mq (nl ?_);exact jz ((),(l,Ul)) h [0,1,2,3]
       .refine xa ?_;exact jz ((),c.1) h [0,1,2,3]
      .refine ae ?_;iterate 3 refine mq ?_
       refine ol AA ?_;refine mq ?_;obtain⟨J,O,h⟩:=aa h;refine jb (eD rfl O) ?_;refine jb (Cm rfl rfl) ?_;refine ja (bb (t:=Ti) [(.tmp 57,_)] [nz j J] rfl rfl dS (.cons rfl .int .nil) rfl rfl) ?_;obtain⟨Uw,mc,h⟩:=aa h;refine fr 2 ?_;refine dV rfl rfl rfl (cp rfl rfl dS (am mc)) ⟨rfl,rfl,trivial⟩ λUo=>?_;refine aq (aD (bn ?_));exact jz (Uo,y7.1++[nz j J]) h [1,2,0,3]
     .refine ae ?_;obtain⟨Uk,M,h⟩:=aa h;refine jb (bG rfl M) ?_;refine mq (nl ?_);exact jz (e,(x9,Uk)) h [0,1,2,3]
    .refine xa ?_;exact jz (z8,y7.1) h [2,3]
   .refine sr (mq ?_);obtain⟨u,qt,h⟩:=aa h;refine ka (lz (N:=[(.tmp 61,.eq z6)]) (au [.tmp 61] rfl rfl QA rfl (nJ k x5 u qt)) (λ_ _ _ hv hn=>⟨(lend hn.1 hv),trivial⟩) (λ_=>⟨rfl,og⟩)) ?_;refine aq (nt (aj (sr ?_)));iterate 2 refine mq ?_
    refine ol AA ?_;refine jb (ko rfl) ?_;refine nt (ci h (λh=>?_) (λh=>?_))
    .refine sr (cq ?_);refine cq ?_;refine cq (nt (rx ?_));cases h;exact aL () [_,_,_] 0 ⟨rfl,rfl,rfl,trivial⟩ rfl
    .refine sk (sr ?_);iterate 2 refine mq ?_
     obtain⟨Up,mw,h⟩:=aa h;refine kb (lz (N:=[(.tmp 67,.eq z6),(.tmp 68,I u)]) (au [.tmp 67,.tmp 68] rfl rfl Qz rfl (ma k x5 u Up mw)) (λ_ _ _ hv hn=>⟨(lend hn.1 hv),hn.2.1,trivial⟩) (λ_=>⟨rfl,og⟩)) ?_;refine mq ?_;refine aq ?_;refine aq ?_;refine cq (nt (aA ?_));cases h;exact aL () [_,_,_] 0 ⟨rfl,rfl,rfl,trivial⟩ rfl
def d5(k:Nat)(r7:(List Int)):Nat->((List (List Int))×Int)->Option (List (List Int))
 |0,_=>none
 |n+1,y8=>
  if y8.2 < (r7.length:Int) then((aP r7 y8.2).bind λh=>
  (fM k h).bind λc=>
  (cH (bJ (length y8.1+length [c]))).bind λ_=>
  (ck (y8.2+1)).bind λe=>
  d5 k r7 n (y8.1++[c],e)) else(some y8.1)
def fO(k:Nat)(a0:ab):Option ((List (List Int))×Int):=
 (jG k a0 ([]:(List Int)) ([]:(List Int)) ([]:(List Int)) ([]:(List Int))).bind λr2=>
 f8 r2.1 (if¬(r2.2.2=0) then(some (([]:(List (List Int))),r2.2.2)) else(none)) (λq3=>if¬(r2.2.2=0) then(some (([]:(List (List Int))),r2.2.2)) else((((eh k q3 0).bind λr7=>
 d5 k r7 k (([]:(List (List Int))),0)):Option ((List (List Int)))).bind λx5=>
 some (x5,0)))
theorem lV(k:Nat)(a0:ab)(r:(List (List Int))×Int)(h:fO k a0=some r):
 bX (dN Tryz.prog) 28 [.rep ap a0] [] (λ_:Unit=>(bI [.rep (.slice Tl) r.1,I r.2],[])):=by
 unfold fO at h
 replace h:=bg h
 refine bX.of 33 Tryz.func28 rfl Tryz.ntmps28 rfl λS w0=>?_
 refine sr ?_
 refine bx λb1=>?_
 refine cq ?_
 refine cq ?_
 refine nt ?_
 refine sr ?_
 refine lo fC ?_
 obtain⟨r2,M,h⟩:=aa h
 have c:=lM k a0 ([]:(List Int)) ([]:(List Int)) ([]:(List Int)) ([]:(List Int)) r2 M
 rcases hr:r2.1 with _ |q3
 .
  rw [hr] at h c;replace h:=vy h;refine aM (Δ:=[]) (F:=_) (λ_ _ _=>ag rfl _) rfl rfl (bO (N:=[(.tmp 11,.rep ap a0),(.const (.slice none 0 0),.eq (.slice none 0 0)),(.const (.slice none 0 0),.eq (.slice none 0 0)),(.const (.slice none 0 0),.eq (.slice none 0 0)),(.const (.slice none 0 0),.eq (.slice none 0 0))]) (aU [.tmp 11,.const (.slice none 0 0),.const (.slice none 0 0),.const (.slice none 0 0),.const (.slice none 0 0)] rfl rfl zE rfl c) λ_ _ _ hn=>⟨hn.1,(aG (t:=Tl) (x:=([]:(List Int))) .nil rfl rfl hn.2.1),(aG (t:=Tl) (x:=([]:(List Int))) .nil rfl rfl hn.2.2.1),(aG (t:=Tl) (x:=([]:(List Int))) .nil rfl rfl hn.2.2.2.1),(aG (t:=Tl) (x:=([]:(List Int))) .nil rfl rfl hn.2.2.2.2.1),trivial⟩) ⟨rfl,rfl,rfl,rfl,rfl,trivial⟩ λ_=>?_;refine mq ?_;refine xr ?_;refine xr ?_;refine xr ?_;refine aq ?_;refine aq ?_;refine aq (nt (aj (sr ?_)));refine mq ?_;refine jb (fq rfl) ?_;refine nt (cn h (λh=>?_) (λh=>?_))
  .refine sr (mq ?_);refine cq ?_;refine aq (nt (rx ?_));refine bH (eu (t:=(.slice Tl)) (x:=([]:(List (List Int)))) 2 rfl .nil rfl rfl) ?_;cases h;exact rb
  .cases h
 .
  rw [hr] at h c;replace h:=vx h;refine aM (Δ:=[]) (F:=_) (λ_ _ _=>ag rfl _) rfl rfl (bO (N:=[(.tmp 11,.rep ap a0),(.const (.slice none 0 0),.eq (.slice none 0 0)),(.const (.slice none 0 0),.eq (.slice none 0 0)),(.const (.slice none 0 0),.eq (.slice none 0 0)),(.const (.slice none 0 0),.eq (.slice none 0 0))]) (aU [.tmp 11,.const (.slice none 0 0),.const (.slice none 0 0),.const (.slice none 0 0),.const (.slice none 0 0)] rfl rfl zE rfl c) λ_ _ _ hn=>⟨hn.1,(aG (t:=Tl) (x:=([]:(List Int))) .nil rfl rfl hn.2.1),(aG (t:=Tl) (x:=([]:(List Int))) .nil rfl rfl hn.2.2.1),(aG (t:=Tl) (x:=([]:(List Int))) .nil rfl rfl hn.2.2.2.1),(aG (t:=Tl) (x:=([]:(List Int))) .nil rfl rfl hn.2.2.2.2.1),trivial⟩) ⟨rfl,rfl,rfl,rfl,rfl,trivial⟩ λz4=>?_;refine mq ?_;refine xr ?_;refine xr ?_;refine xr ?_;refine aq ?_;refine aq ?_;refine aq (nt (aj (sr ?_)));refine mq ?_;refine jb (fq rfl) ?_;refine nt (cn h (λh=>?_) (λh=>?_))
  .refine sr (mq ?_);refine cq ?_;refine aq (nt (rx ?_));refine bH (eu (t:=(.slice Tl)) (x:=([]:(List (List Int)))) 2 rfl .nil rfl rfl) ?_;cases h;exact rb
  .refine sk (sr (cq (nt ?_)));refine aJ (Z:=Value) (α:=(List (List Int))) (λz6 x5=>[(7,.eq z6)]) (λz6 x5=>[.sl z6 28 Tl x5,.inv z4.2 (bW k q3)]) h (λK h=>?_) (λz6 x5 h=>?_)
   .refine sr (mq ?_);obtain⟨r7,J,h⟩:=aa h;refine fr 1 ?_;refine fr 1 ?_;refine aM (Δ:=[_,_]) (F:=_) (λ_ _ _=>ag rfl _) rfl rfl (aU [.tmp 19,.const (.int .u8 (0))] rfl rfl Qy rfl (kp k q3 z4.1 z4.2 0 r7 J)) ⟨rfl,rfl,trivial⟩ λ_=>?_;refine ol AA ?_;refine eX rfl ?_;refine nt (ak (iD (SE.nil 28 Tl) ?_));refine aI (λz9 y8=>[(7,.eq z9),(20,.rep (.slice (.int .u8)) r7),(21,I (r7.length:Int)),(22,I y8.2)]) (λz9 y8=>[.sl z9 28 Tl y8.1,.inv z4.2 (bW k q3)]) (d5 k r7) k (.slice none 0 0) (([]:(List (List Int))),0) (λ_=>rfl) h (SE.fin [0,2] ⟨rfl,rfl,rfl,rfl,trivial⟩ rfl) (λn z9 y8 h=>?_);unfold d5 at h;refine sr (jb (bK rfl) ?_);refine nt (aj (ci h (λh=>?_) (λh=>?_)))
    .refine sk (aj (ak (sr ?_)));obtain⟨D,l,h⟩:=aa h;refine jb (bo (t:=(.int .u8)) rfl AA pz l) ?_;refine ja (av (t:=(.int .u8)) rfl pz rfl) ?_;refine aq (nt (ae ?_));iterate 2 refine mq ?_
     obtain⟨e,u,h⟩:=aa h;refine ja (au [.tmp 27] rfl rfl Ou rfl (j9 k D e u)) ?_;refine ja (bb (t:=Tl) [(.tmp 28,_)] [e] rfl rfl pe (.cons rfl .rep .nil) rfl rfl) ?_;obtain⟨O,s,h⟩:=aa h;refine dV rfl rfl rfl (cp rfl rfl pe (am s)) ⟨rfl,rfl,trivial⟩ λE=>?_;refine aq (aD (aS (tn (ae ?_))));obtain⟨y,j,h⟩:=aa h;refine jb (bG rfl j) ?_;refine mq (nl ?_);exact jz (E,(y8.1++[e],y)) h [0,1]
    .refine xa ?_;exact jz (z9,y8.1) h [0,1]
   .refine sr (mq ?_);refine aq ?_;refine cq (nt (aA ?_));refine bH (jo [2,7,32] ⟨rfl,rfl,rfl,trivial⟩) ?_;cases h;exact rb
def fN(k:Nat)(a2:Int)(r1:(List (List Int)))(x5:Int):Nat->Int->Option (Except Int Unit)
 |0,_=>none
 |n+1,y6=>
  if y6 < x5 then((aP r1 y6).bind λx8=>
  (aP x8 a2).bind λx9=>
  if 0≤x9 then(some (.error y6)) else((ck (y6+1)).bind λc=>
  fN k a2 r1 x5 n c)) else(some (.ok ()))
def io(k:Nat)(a0:ab)(a1:Int)(a2:Int):Option Int:=
 (kE k a0 a1).bind λr1=>
 bE (α:=Unit) ((ck ((a0.2.2.2.2.1.length:Int)+1)).bind λx5=>
 fN k a2 r1 x5 k 0) (some) λ_=>
 some (-1:Int)
theorem li(k:Nat)(a0:ab)(c z_a0:Nat)(a1:Int)(a2:Int)(r:Int)(h:io k a0 a1 a2=some r):
 bX (dN Tryz.prog) 74 [Pt c,.eq (.int .u8 a1),I a2] [.obj c 135 (aR a0 z_a0),.inv z_a0 (bW k a0)] (λ_:Unit=>(bI [I r],[.obj c 135 (aR a0 z_a0),.inv z_a0 (bW k a0)])):=by
 unfold io at h
 replace h:=bg h
 refine bX.of 30 Tryz.func74 rfl Tryz.ntmps74 rfl λS w0=>?_
 refine sr ?_
 refine cq ?_
 refine nt ?_
 refine sr ?_
 iterate 2 refine mq ?_
 obtain⟨r1,D,h⟩:=aa h
 have E:=oQ k a0 c z_a0 a1 r1 D
 refine fr 1 ?_
 refine fr 1 ?_
 refine aM (Δ:=[_,_]) (F:=_) (λ_ _ _=>ag rfl _) rfl rfl (aU [.tmp 9,.tmp 10] rfl rfl EC rfl E) ⟨rfl,rfl,trivial⟩ λ_=>?_
 refine aV rfl rfl rfl (ba rfl Fe Im) trivial λb2=>?_
 refine aH rfl rfl (aF rfl F4 rfl rfl rfl) ⟨rfl,rfl,trivial⟩ ?_
 refine eE (jl (t:=(.arr 7 Tr)) (x:=r1) [7] .rep ⟨rfl,trivial⟩) ?_
 refine nt ?_
 refine dI (Z:=Unit) (α:=Unit) (λz4 x3=>[]) (λz4 x3=>[.obj c 135 (aR a0 z_a0),.inv z_a0 (bW k a0)]) (λe=>e=r) h (λe h=>Option.some.inj h) (λK hR h=>?_) (λz4 x3 h=>?_)
 .
  refine sr (mq ?_);refine ja (cL rfl) ?_;refine fl gV ?_;refine fl dD ?_;refine lo i8 ?_;refine ol xY ?_;obtain⟨x5,y,h⟩:=aa h;refine jb (bG rfl y) ?_;refine eX rfl ?_;refine nt (ak (aI (λz7 y6=>[(2,I a2),(7,.at (.arr 7 Tr) r1),(18,I x5),(19,I y6)]) (λz7 y6=>[.obj c 135 (aR a0 z_a0),.inv z_a0 (bW k a0)]) (fN k a2 r1 x5) k () 0 (λ_=>rfl) h (SE.fin [0,1] ⟨rfl,rfl,rfl,rfl,trivial⟩ rfl) (λn z7 y6 h=>?_)));unfold fN at h;refine sr (jb (bK rfl) ?_);refine nt (aj (ci h (λh=>?_) (λh=>?_)))
  .refine sk (aj (ak (sr (mq ?_))));refine aq (nt (sr ?_));iterate 2 refine mq ?_
   obtain⟨x8,u,h⟩:=aa h;refine jb (cj (t:=Tr) rfl I3 iZ u) ?_;obtain⟨x9,s,h⟩:=aa h;refine jb (cj (t:=Ti) rfl BP cQ s) ?_;refine ja (av (t:=Ti) rfl cQ rfl) ?_;refine jb (ko rfl) ?_;refine nt (ci h (λh=>?_) (λh=>?_))
   .refine sr (mq ?_);refine aq (nt (aA (br (bP (bF ?_)))));obtain rfl:=hR _ h;exact aL () [_] 2 ⟨rfl,trivial⟩ rfl
   .refine bq (aS (tn (ae ?_)));obtain⟨l,j,h⟩:=aa h;refine jb (bG rfl j) ?_;refine mq (nl ?_);exact jz ((),l) h [0,1]
  .refine xa ?_;exact jz ((),()) h [0,1]
 .
  refine sr (cq (nt (aA ?_)));cases h;exact aL () [_] 2 ⟨rfl,trivial⟩ rfl
def ge(k:Nat)(r2:(List (List Int)))(y6:Int×Int×(List (eF×eF))):Nat->Int->Option Int
 |0,_=>none
 |n+1,c=>
  ((if 0 < c then((ck (c - 1)).bind λl=>
  (aP r2 l).bind λj=>
  (aP j y6.1).bind λh=>
  some (decide (0≤h))) else(some false)):Option (Bool)).bind λr=>
  if r=true then((ck (c - 1)).bind λe=>
  ge k r2 y6 n e) else(some c)
def gf(k:Nat)(a0:ab)(r2:(List (List Int))):Nat->(Int×Int×(List (eF×eF)))->Option (List (fi×fi))
 |0,_=>none
 |n+1,y6=>
  bE (α:=Int×Int×(List (eF×eF))) (((ge k r2 y6 k y6.2.1):Option (Int)).bind λc=>
  if c=0 then((cH (yD (y6.1,y6.2.1))).bind λ_=>
  some (.error (Bh y6.2.2 (y6.1,y6.2.1) ((-1:Int),0)))) else((ck (c - 1)).bind λr=>
  (aP r2 r).bind λl=>
  (ck (c - 1)).bind λj=>
  (di k a0 l y6.1 j).bind λh=>
  (ck (c - 1)).bind λe=>
  (cH (yD (y6.1,y6.2.1))).bind λ_=>
  some (.ok (h,e,Bh y6.2.2 (y6.1,y6.2.1) (h,e))))) (some) λx8=>
  gf k a0 r2 n (x8.1,x8.2.1,x8.2.2)
def ll(k:Nat)(a0:ab)(a1:Int)(a2:fi):Option (List (fi×fi)):=
 (kE k a0 a1).bind λr2=>
 gf k a0 r2 k (a2.1,a2.2,([]:List (eF×eF)))
theorem qF(k:Nat)(a0:ab)(c z_a0:Nat)(a1:Int)(a2:fi)(r:(List (fi×fi)))(h:ll k a0 a1 a2=some r):
 bX (dN Tryz.prog) 79 [Pt c,.eq (.int .u8 a1),.rep bN a2] [.obj c 135 (aR a0 z_a0),.inv z_a0 (bW k a0)] (λz:Nat=>(bI [.eq (.map (some z))],[.inv z (sW r),.obj c 135 (aR a0 z_a0),.inv z_a0 (bW k a0)])):=by
 unfold ll at h
 replace h:=bg h
 refine bX.of 56 Tryz.func79 rfl Tryz.ntmps79 rfl λS w0=>?_
 refine sr ?_
 refine bx λb1=>?_
 refine cq ?_
 refine nt ?_
 refine sr ?_
 iterate 2 refine mq ?_
 obtain⟨r2,UG,h⟩:=aa h
 have UH:=oQ k a0 c z_a0 a1 r2 UG
 refine fr 2 ?_
 refine fr 2 ?_
 refine aM (Δ:=[_,_]) (F:=_) (λ_ _ _=>ag rfl _) rfl rfl (aU [.tmp 12,.tmp 13] rfl rfl EC rfl UH) ⟨rfl,rfl,trivial⟩ λ_=>?_
 refine aV rfl rfl rfl (ba rfl Fe Im) trivial λb3=>?_
 refine aH rfl rfl (aF rfl F4 rfl rfl rfl) ⟨rfl,rfl,trivial⟩ ?_
 refine eE (jl (t:=(.arr 7 Tr)) (x:=r2) [7] .rep ⟨rfl,trivial⟩) ?_
 refine nt ?_
 refine sr ?_
 refine aV rfl rfl rfl (vT rfl) trivial λz4=>?_
 refine eE (sC (sW []) Jl) ?_
 refine aq ?_
 refine nt ?_
 refine sr ?_
 refine aV rfl rfl rfl (ba rfl sG Ab) trivial λb5=>?_
 refine nt ?_
 refine sr ?_
 refine fl xE ?_
 refine aH rfl rfl (aF rfl cQ rfl rfl rfl) ⟨rfl,rfl,trivial⟩ ?_
 refine nt ?_
 refine ak ?_
 refine dx 4 rfl ?_
 refine iD (gh (a:=.rep bN a2) (a':=.agg (.pair (I a2.1) (I a2.2))) (AE.trans DY (AE.agg (AE.trans Ap (AE.pair AE.int AE.int))))) ?_
 refine aI (λz7 y6=>[(0,Pt c),(5,Pt b1),(7,.at (.arr 7 Tr) r2),(8,.eq (.map (some z4))),(9,Pt b5)]) (λz7 y6=>[.obj c 135 (aR a0 z_a0),.obj b1 110 (.agg (.pair (I y6.1) (I y6.2.1))),.obj b5 110 (.agg (.pair (I (-1:Int)) (I 0))),.inv z_a0 (bW k a0),.inv z4 (sW y6.2.2)]) (gf k a0 r2) k () (a2.1,a2.2,([]:List (eF×eF))) (λ_=>rfl) h (SE.fin [3,0,1,4,2] ⟨rfl,rfl,rfl,rfl,rfl,trivial⟩ rfl) (λn z7 y6 h=>?_)
 unfold gf at h
 refine IP (Z:=Unit) (α:=Int×Int×(List (eF×eF))) (λz9 x8=>[(0,Pt c),(5,Pt b1),(7,.at (.arr 7 Tr) r2),(8,.eq (.map (some z4))),(9,Pt b5)]) (λz9 x8=>[.obj c 135 (aR a0 z_a0),.obj b1 110 (.agg (.pair (I x8.1) (I x8.2.1))),.obj b5 110 (.agg (.pair (I (-1:Int)) (I 0))),.inv z_a0 (bW k a0),.inv z4 (sW x8.2.2)]) (λe=>e=r) h (λe h=>Option.some.inj h) (λK hR h=>?_) (λz9 x8 h=>?_)
 .
  refine ak (sr (fl KU ?_));refine fr 1 ?_;refine lo cQ ?_;refine aq (nt ?_);refine aJ (Z:=Unit) (α:=Int) (λO D=>[(0,Pt c),(5,Pt b1),(7,.at (.arr 7 Tr) r2),(8,.eq (.map (some z4))),(9,Pt b5),(10,I D)]) (λO D=>[.obj c 135 (aR a0 z_a0),.obj b1 110 (.agg (.pair (I y6.1) (I y6.2.1))),.obj b5 110 (.agg (.pair (I (-1:Int)) (I 0))),.inv z_a0 (bW k a0),.inv z4 (sW y6.2.2)]) h (λK h=>?_) (λO D h=>?_)
  .refine ak (aI (λM s=>[(0,Pt c),(5,Pt b1),(7,.at (.arr 7 Tr) r2),(8,.eq (.map (some z4))),(9,Pt b5),(10,I s)]) (λM s=>[.obj c 135 (aR a0 z_a0),.obj b1 110 (.agg (.pair (I y6.1) (I y6.2.1))),.obj b5 110 (.agg (.pair (I (-1:Int)) (I 0))),.inv z_a0 (bW k a0),.inv z4 (sW y6.2.2)]) (ge k r2 y6) k () y6.2.1 (λ_=>rfl) h (SE.fin [1,0,2,3,4] ⟨rfl,rfl,rfl,rfl,rfl,rfl,trivial⟩ rfl) (λn M s h=>?_));unfold ge at h;refine aj (aJ (Z:=Unit) (α:=Bool) (λJ y=>[(0,Pt c),(5,Pt b1),(7,.at (.arr 7 Tr) r2),(8,.eq (.map (some z4))),(9,Pt b5),(10,I s),(30,.eq (.bool y))]) (λJ y=>[.obj c 135 (aR a0 z_a0),.obj b1 110 (.agg (.pair (I y6.1) (I y6.2.1))),.obj b5 110 (.agg (.pair (I (-1:Int)) (I 0))),.inv z_a0 (bW k a0),.inv z4 (sW y6.2.2)]) h (λK h=>?_) (λJ y h=>?_))
   .refine cO ?_;refine dm ?_;refine db (nS rfl) ?_;refine yg rfl rfl rfl (bD rfl) ⟨rfl,trivial⟩ (λhb=>?_) (λhb=>?_)
    .replace h:=eU (sP hb) h;refine dR rfl rfl rfl rfl rfl (bD rfl) ⟨rfl,rfl,trivial⟩ ?_;obtain⟨UP,Un,h⟩:=aa h;refine dR rfl rfl rfl rfl rfl (eD rfl Un) ⟨rfl,rfl,rfl,trivial⟩ ?_;refine dR rfl rfl rfl rfl rfl (aC rfl xE) ⟨rfl,rfl,trivial⟩ ?_;refine kJ 1 rfl rfl rfl rfl rfl rfl (ay rfl cQ nB rfl) ⟨rfl,rfl,trivial⟩ ?_;obtain⟨UO,Um,h⟩:=aa h;refine dR rfl rfl rfl rfl rfl (cj (t:=Tr) rfl I3 iZ Um) ⟨rfl,rfl,rfl,trivial⟩ ?_;refine df eo ?_;obtain⟨Uw,Ul,h⟩:=aa h;refine gb (cj (t:=Ti) rfl BP cQ Ul) ?_;refine ga (av (t:=Ti) rfl cQ rfl) ?_;refine gb (ko rfl) ?_;refine pt (nl ?_);exact jz ((),decide (0≤Uw)) h [0,1,2,3,4]
    .replace h:=cV (sQ hb) h;iterate 5 refine dg ?_
     refine df eo ?_;iterate 3 refine gn ?_
     refine pf (nl ?_);exact jz ((),false) h [0,1,2,3,4]
   .refine cv h (λh=>?_) (λh=>?_)
    .refine sk (ak (ae (mq ?_)));obtain⟨Uu,Uk,h⟩:=aa h;refine jb (eD rfl Uk) ?_;refine aq (aD (bn ?_));exact jz ((),Uu) h [0,1,2,3,4]
    .refine xa ?_;exact jz ((),s) h [0,1,2,3,4]
  .refine aj (sr (mq ?_));refine jb (gu rfl) ?_;refine nt (ci h (λh=>?_) (λh=>?_))
   .refine sr (mq ?_);refine fr 1 ?_;refine lo jC ?_;refine fr 2 ?_;refine lo jC ?_;refine eE (eu (t:=bN) (x:=(y6.1,y6.2.1)) 36 rfl (.agg (.pair .int .int)) trivial rfl) ?_;obtain⟨U7,Up,h⟩:=aa h;refine eE (eu (t:=bN) (x:=((-1:Int),0)) 37 rfl (.agg (.pair .int .int)) trivial rfl) ?_;refine fr 4 ?_;refine aH rfl rfl (qx (K:=kT) (V:=kT) (t:=(y6.1,y6.2.1)) (n:=((-1:Int),0)) (l:=y6.2.2) (λ_ _ _ h=>mL h) rfl EW l8 (λ_ _ _ h=>mL h) (qi (am Up)) (qh _) qj) ⟨rfl,rfl,rfl,trivial⟩ ?_;refine nt (sr (mq ?_));refine aq (nt (rx (br (bP ?_))));refine bH (SE.fin (Γ':=[(6,_)]) [0,3,4,1,2] ⟨rfl,trivial⟩ rfl) ?_;obtain rfl:=hR _ h;exact aL z4 [.eq (.map (some z4))] 3 ⟨rfl,trivial⟩ rfl
   .refine sk (aj (qX ?_));refine bR rfl rfl rfl (bD rfl) ⟨rfl,trivial⟩ ?_;refine bR rfl rfl rfl (bD rfl) ⟨rfl,trivial⟩ ?_;obtain⟨UN,zz,h⟩:=aa h;refine bR rfl rfl rfl (eD rfl zz) ⟨rfl,rfl,trivial⟩ ?_;obtain⟨Ut,qt,h⟩:=aa h;refine bR rfl rfl rfl (cj (t:=Tr) rfl I3 iZ qt) ⟨rfl,rfl,trivial⟩ ?_;refine bR rfl rfl rfl (av (t:=Tr) rfl iZ rfl) ⟨rfl,trivial⟩ ?_;refine bR rfl rfl rfl (aC rfl xE) ⟨rfl,trivial⟩ ?_;refine hH 1 rfl rfl rfl rfl (ay rfl cQ nB rfl) ⟨rfl,trivial⟩ ?_;refine bR rfl rfl rfl (bD rfl) ⟨rfl,trivial⟩ ?_;obtain⟨Us,mw,h⟩:=aa h;refine bR rfl rfl rfl (eD rfl mw) ⟨rfl,rfl,trivial⟩ ?_;obtain⟨j,Ur,h⟩:=aa h;refine hH 0 rfl rfl rfl rfl (au [.tmp 39,.tmp 43,.tmp 45,.tmp 47] rfl rfl MP rfl (nv k a0 c z_a0 Ut y6.1 Us j Ur)) ⟨rfl,rfl,rfl,rfl,trivial⟩ ?_;refine bR rfl rfl rfl (bD rfl) ⟨rfl,trivial⟩ ?_;obtain⟨u,mc,h⟩:=aa h;refine bR rfl rfl rfl (eD rfl mc) ⟨rfl,rfl,trivial⟩ ?_;refine bR rfl rfl rfl (dX [(0,.tmp 48,_),(1,.tmp 50,_)] rfl GG sG BM (jD ⟨rfl,rfl,trivial⟩) rfl) ⟨rfl,rfl,trivial⟩ ?_;refine LR (NT 110 (.agg (.pair (I 0) (I 0)))) (λ_=>rfl) rfl rfl rfl (ba rfl sG Ab) trivial ?_;refine uR 14 [true,true,true,true,true,true,true,true,true,true,true,true,true,true] [] [] [] rfl (by kernel_rfl) (by kernel_rfl) (by kernel_rfl) eo (λvs hv hB=>?_);obtain⟨w0,U2,rfl,UF⟩:=ax hv;obtain⟨w1,U1,rfl,UE⟩:=ax UF;obtain⟨w2,U0,rfl,UD⟩:=ax UE;obtain⟨w3,UZ,rfl,UC⟩:=ax UD;obtain⟨w4,UY,rfl,UB⟩:=ax UC;obtain⟨w5,UX,rfl,UA⟩:=ax UB;obtain⟨w6,UW,rfl,Uz⟩:=ax UA;obtain⟨w7,UV,rfl,Uy⟩:=ax Uz;obtain⟨w8,UU,rfl,Ux⟩:=ax Uy;obtain⟨w9,UM,rfl,gw⟩:=ax Ux;obtain⟨UT,UL,rfl,Y⟩:=ax gw;obtain⟨US,UK,rfl,X⟩:=ax Y;obtain⟨UR,UJ,rfl,U⟩:=ax X;obtain⟨UQ,UI,rfl,Q⟩:=ax U;obtain rfl:=qI Q;obtain⟨E,rfl⟩:=NS hB.2.2.2.2.2.2.2.2.2.2.2.2.2.1;refine⟨[0,1,2,3,4,5],[.obj c 135 (aR a0 z_a0),.obj b1 110 (.agg (.pair (I y6.1) (I y6.2.1))),.obj b5 110 (.agg (.pair (I (-1:Int)) (I 0))),.inv z_a0 (bW k a0),.inv z4 (sW y6.2.2),.obj E 110 (.agg (.pair (I 0) (I 0)))],by kernel_rfl,by decide,?_⟩;refine qV 5 rfl ?_;refine sD rfl rfl (aF rfl jC trivial rfl rfl) ⟨rfl,rfl,trivial⟩ (by kernel_rfl) ?_;refine yc ?_;refine bH (SE.fin (Γ':=[(0,Pt c),(5,Pt b1),(7,.at (.arr 7 Tr) r2),(8,.eq (.map (some z4))),(9,Pt b5),(11,Pt E)]) (Δ':=[.obj E 110 (.agg (.pair (I j) (I u))),.obj c 135 (aR a0 z_a0),.obj b1 110 (.agg (.pair (I y6.1) (I y6.2.1))),.obj b5 110 (.agg (.pair (I (-1:Int)) (I 0))),.inv z_a0 (bW k a0),.inv z4 (sW y6.2.2)]) [0,1,2,3,4,5] ⟨rfl,rfl,rfl,rfl,rfl,rfl,trivial⟩ rfl) ?_;refine tn (sr (mq ?_));refine fr 2 ?_;refine lo jC ?_;refine fr 1 ?_;refine lo jC ?_;refine eE (eu (t:=bN) (x:=(y6.1,y6.2.1)) 53 rfl (.agg (.pair .int .int)) trivial rfl) ?_;obtain⟨U6,Uo,h⟩:=aa h;refine eE (eu (t:=bN) (x:=(j,u)) 54 rfl (.agg (.pair .int .int)) trivial rfl) ?_;refine fr 5 ?_;refine aH rfl rfl (qx (K:=kT) (V:=kT) (t:=(y6.1,y6.2.1)) (n:=(j,u)) (l:=y6.2.2) (λ_ _ _ h=>mL h) rfl EW l8 (λ_ _ _ h=>mL h) (qi (am Uo)) (qh _) qj) ⟨rfl,rfl,rfl,trivial⟩ ?_
    refine nt (ae (fr 1 ?_));refine lo jC ?_;refine fr 2 ?_;refine aH rfl rfl (aF rfl jC trivial rfl rfl) ⟨rfl,rfl,trivial⟩ ?_;refine aD (bn ?_);exact jz ((),(j,u,Bh y6.2.2 (y6.1,y6.2.1) (j,u))) h [3,0,4,5,2]
 .
  refine an ?_;exact jz ((),(x8.1,x8.2.1,x8.2.2)) h [0,1,2,3,4]
def kC(k:Nat)(r7:(List (fi×fi))):Nat->(Int×Int×(List Int))->Option (List Int)
 |0,_=>none
 |n+1,c=>
  (cH (yD (c.1,c.2.1))).bind λ_=>
  if¬((mV r7 (c.1,c.2.1) (0,0))=((-1:Int),0)) then((cH (yD (c.1,c.2.1))).bind λ_=>
  (cH (bJ (length c.2.2+length [(mV r7 (c.1,c.2.1) (0,0)).1]))).bind λ_=>
  (cH (yD (c.1,c.2.1))).bind λ_=>
  kC k r7 n ((mV r7 (c.1,c.2.1) (0,0)).1,(mV r7 (c.1,c.2.1) (0,0)).2,c.2.2++[(mV r7 (c.1,c.2.1) (0,0)).1])) else(some c.2.2)
def rP(k:Nat)(a0:ab)(a1:(List Int))(a2:Int):Option ((List Int)×Int):=
 (jG k a0 a1 [a2] ([]:(List Int)) ([]:(List Int))).bind λr2=>
 f8 r2.1 (if¬(r2.2.2=0) then(some (([]:(List Int)),r2.2.2)) else(none)) (λq3=>if¬(r2.2.2=0) then(some (([]:(List Int)),r2.2.2)) else((io k q3 r2.2.1 a2).bind λr5=>
 if r5 < 0 then(some (([]:(List Int)),11)) else((ll k q3 r2.2.1 (a2,r5)).bind λr7=>
 ((kC k r7 k (a2,r5,[a2])):Option ((List Int))).bind λc=>
 (jX k c).bind λe=>
 some (e,0))))
theorem xn(k:Nat)(a0:ab)(a1:(List Int))(a2:Int)(r:(List Int)×Int)(h:rP k a0 a1 a2=some r):
 bX (dN Tryz.prog) 38 [.rep ap a0,.rep Tl a1,I a2] [] (λ_:Unit=>(bI [.rep Tl r.1,I r.2],[])):=by
 unfold rP at h
 replace h:=bg h
 refine bX.of 64 Tryz.func38 rfl Tryz.ntmps38 rfl λS w0=>?_
 refine sr ?_
 refine bx λb1=>?_
 refine cq ?_
 refine cq ?_
 refine nt ?_
 refine sr ?_
 refine lo fC ?_
 iterate 2 refine mq ?_
 refine ja (bb (t:=Ti) [(.tmp 19,_)] [a2] rfl rfl dS (.cons rfl .int .nil) rfl rfl) ?_
 obtain⟨r2,Y,h⟩:=aa h
 have u:=lM k a0 a1 [a2] ([]:(List Int)) ([]:(List Int)) r2 Y
 rcases hr:r2.1 with _ |q3
 .
  rw [hr] at h u;replace h:=vy h;refine aM (Δ:=[]) (F:=_) (λ_ _ _=>ag rfl _) rfl rfl (bO (N:=[(.tmp 17,.rep ap a0),(.tmp 18,.rep Tl a1),(.tmp 20,.rep Tl [a2]),(.const (.slice none 0 0),.eq (.slice none 0 0)),(.const (.slice none 0 0),.eq (.slice none 0 0))]) (aU [.tmp 17,.tmp 18,.tmp 20,.const (.slice none 0 0),.const (.slice none 0 0)] rfl rfl zE rfl u) λ_ _ _ hn=>⟨hn.1,hn.2.1,hn.2.2.1,(aG (t:=Tl) (x:=([]:(List Int))) .nil rfl rfl hn.2.2.2.1),(aG (t:=Tl) (x:=([]:(List Int))) .nil rfl rfl hn.2.2.2.2.1),trivial⟩) ⟨rfl,rfl,rfl,rfl,rfl,trivial⟩ λ_=>?_;refine mq ?_;refine xr ?_;refine xr ?_;refine xr ?_;refine aq ?_;refine aq ?_;refine aq (nt (aj (sr ?_)));refine mq ?_;refine jb (fq rfl) ?_;refine nt (cn h (λh=>?_) (λh=>?_))
  .refine sr (mq ?_);refine cq ?_;refine aq (nt (rx ?_));refine bH (eu (t:=Tl) (x:=([]:(List Int))) 6 rfl .nil rfl rfl) ?_;cases h;exact rb
  .cases h
 .
  rw [hr] at h u;replace h:=vx h;refine aM (Δ:=[]) (F:=_) (λ_ _ _=>ag rfl _) rfl rfl (bO (N:=[(.tmp 17,.rep ap a0),(.tmp 18,.rep Tl a1),(.tmp 20,.rep Tl [a2]),(.const (.slice none 0 0),.eq (.slice none 0 0)),(.const (.slice none 0 0),.eq (.slice none 0 0))]) (aU [.tmp 17,.tmp 18,.tmp 20,.const (.slice none 0 0),.const (.slice none 0 0)] rfl rfl zE rfl u) λ_ _ _ hn=>⟨hn.1,hn.2.1,hn.2.2.1,(aG (t:=Tl) (x:=([]:(List Int))) .nil rfl rfl hn.2.2.2.1),(aG (t:=Tl) (x:=([]:(List Int))) .nil rfl rfl hn.2.2.2.2.1),trivial⟩) ⟨rfl,rfl,rfl,rfl,rfl,trivial⟩ λz4=>?_;refine mq ?_;refine xr ?_;refine xr ?_;refine xr ?_;refine aq ?_;refine aq ?_;refine aq (nt (aj (sr ?_)));refine mq ?_;refine jb (fq rfl) ?_;refine nt (cn h (λh=>?_) (λh=>?_))
  .refine sr (mq ?_);refine cq ?_;refine aq (nt (rx ?_));refine bH (eu (t:=Tl) (x:=([]:(List Int))) 6 rfl .nil rfl rfl) ?_;cases h;exact rb
  .refine sk (sr ?_);iterate 3 refine mq ?_
   obtain⟨r5,X,h⟩:=aa h;refine fr 1 ?_;refine fr 1 ?_;refine aM (Δ:=[_,_]) (F:=_) (λ_ _ _=>ag rfl _) rfl rfl (aU [.tmp 28,.tmp 29,.tmp 30] rfl rfl Qx rfl (li k q3 z4.1 z4.2 r2.2.1 a2 r5 X)) ⟨rfl,rfl,rfl,trivial⟩ λ_=>?_;refine aq (nt (aj (sr ?_)));refine mq ?_;refine jb (bK rfl) ?_;refine nt (ci h (λh=>?_) (λh=>?_))
   .refine sr (cq ?_);refine cq (nt (rx ?_));refine bH (eu (t:=Tl) (x:=([]:(List Int))) 6 rfl .nil rfl rfl) ?_;cases h;exact rb
   .refine sk (sr ?_);iterate 2 refine mq ?_
    refine jb (dX [(0,.tmp 34,_),(1,.tmp 35,_)] rfl GG sG BM (jD ⟨rfl,rfl,trivial⟩) rfl) ?_;refine aV rfl rfl rfl (ba rfl sG Ab) trivial λb6=>?_;refine aH rfl rfl (aF rfl jC trivial rfl rfl) ⟨rfl,rfl,trivial⟩ ?_;refine nt (sr ?_);iterate 2 refine mq ?_
    refine lo jC ?_;obtain⟨r7,U,h⟩:=aa h;refine fr 2 ?_;refine fr 2 ?_;refine aM (Δ:=[_,_]) (F:=_) (λ_ _ _=>ag rfl _) rfl rfl (bO (N:=[(.tmp 37,.eq (.pointer (some ⟨z4.1,0,none⟩))),(.tmp 38,.eq (.int .u8 r2.2.1)),(.tmp 39,.agg (.pair (I a2) (I r5)))]) (aU [.tmp 37,.tmp 38,.tmp 39] rfl rfl SO rfl (qF k q3 z4.1 z4.2 r2.2.1 (a2,r5) r7 U)) λ_ _ _ hn=>⟨hn.1,hn.2.1,(aG (t:=bN) (x:=(a2,r5)) (.agg (.pair .int .int)) trivial rfl hn.2.2.1),trivial⟩) ⟨rfl,rfl,rfl,trivial⟩ λz8=>?_;refine aq (nt (sr ?_));refine mq ?_;refine aV rfl rfl rfl (k9 (t:=Ti) [(.tmp 41,_)] [a2] rfl rfl dS (.cons rfl .int .nil) rfl rfl) ⟨rfl,trivial⟩ λv9=>?_;refine aq (nt ?_);refine aJ (Z:=Value) (α:=(List Int)) (λj s=>[(13,.eq (.map (some z8))),(14,.eq j)]) (λj s=>[.sl j 3 Ti s,.inv z4.2 (bW k q3),.inv z8 (sW r7)]) h (λK h=>?_) (λj s h=>?_)
    .refine sr (ja (dX [(0,.const (.int .i64 (-1)),_)] rfl GG sG BM (jD ⟨rfl,trivial⟩) rfl) ?_);refine aV rfl rfl rfl (ba rfl sG Ab) trivial λmc=>?_;refine aH rfl rfl (aF rfl jC trivial rfl rfl) ⟨rfl,rfl,trivial⟩ ?_;refine nt (ak (aI (λe c=>[(12,Pt b6),(13,.eq (.map (some z8))),(14,.eq e.1),(15,.eq (.pointer (some ⟨e.2,0,none⟩)))]) (λe c=>[.obj b6 110 (.agg (.pair (I c.1) (I c.2.1))),.sl e.1 3 Ti c.2.2,.obj e.2 110 (.agg (.pair (I (-1:Int)) (I 0))),.inv z4.2 (bW k q3),.inv z8 (sW r7)]) (kC k r7) k (v9,mc) (a2,r5,[a2]) (λ_=>rfl) h (SE.fin [5,1,0,4,2] ⟨rfl,rfl,rfl,rfl,trivial⟩ rfl) (λn e c h=>?_)));unfold kC at h;refine aj (aj (cO ?_));refine dm ?_;refine ea 0 (ay rfl jC (tq) rfl) ?_;obtain⟨zz,J,h⟩:=aa h;refine eb 4 (bO (N:=[(.tmp 44,.eq (.map (some z8))),(.tmp 45,.agg (.pair (I c.1) (I c.2.1)))]) (rE (K:=kT) (V:=kT) (t:=(c.1,c.2.1)) (l:=r7) (λn=>.rep bN n) tI rfl EW (0,0) tH l8 (λ_ _ _ h=>mL h) (qi (am J)) (qh _) qj) λ_ _ _ hn=>⟨hn.1,(aG (t:=bN) (x:=(c.1,c.2.1)) (.agg (.pair .int .int)) trivial rfl hn.2.1),trivial⟩) ?_;refine ea 2 (ay rfl jC (tq) rfl) ?_;refine df eo ?_;refine eE (eu (t:=bN) (x:=((-1:Int),0)) 47 rfl (.agg (.pair .int .int)) trivial rfl) ?_;refine jb (NY rfl Qs rfl) ?_;refine nt (cn h (λh=>?_) (λh=>?_))
     .refine sk (aj (ak (ae ?_)));iterate 2 refine mq ?_
      refine lo jC ?_;refine eE (eu (t:=bN) (x:=(c.1,c.2.1)) 54 rfl (.agg (.pair .int .int)) trivial rfl) ?_;obtain⟨u16,E,h⟩:=aa h;refine fr 4 ?_;refine kb (bO (N:=[(.tmp 53,.eq (.map (some z8))),(.tmp 54,.rep bN (c.1,c.2.1))]) (rE (K:=kT) (V:=kT) (t:=(c.1,c.2.1)) (l:=r7) (λn=>.rep bN n) tI rfl EW (0,0) tH l8 (λ_ _ _ h=>mL h) (qi (am E)) (qh _) qj) λ_ _ _ hn=>⟨hn.1,hn.2.1,trivial⟩) ?_;refine ja (JV rfl TB rfl cQ (λ_=>rfl) rfl rfl rfl) ?_;refine ja (bb (t:=Ti) [(.tmp 56,_)] [(mV r7 (c.1,c.2.1) (0,0)).1] rfl rfl dS (.cons rfl .int .nil) rfl rfl) ?_;obtain⟨qt,D,h⟩:=aa h;refine fr 2 ?_;refine dV rfl rfl rfl (cp rfl rfl dS (am D)) ⟨rfl,rfl,trivial⟩ λO=>?_;refine aq (aD (aS (tn (aj (sr ?_)))));refine fr 3 ?_;refine lo jC ?_;refine nt (ae (aV rfl rfl rfl (ba rfl sG Ab) trivial λgw=>?_));refine aH rfl rfl (aF rfl jC trivial rfl rfl) ⟨rfl,rfl,trivial⟩ ?_;refine nt (ae (mq ?_));refine fr 4 ?_;refine lo jC ?_;refine eE (eu (t:=bN) (x:=(c.1,c.2.1)) 50 rfl (.agg (.pair .int .int)) trivial rfl) ?_;obtain⟨mw,y,h⟩:=aa h;refine fr 4 ?_;refine kb (bO (N:=[(.tmp 49,.eq (.map (some z8))),(.tmp 50,.rep bN (c.1,c.2.1))]) (rE (K:=kT) (V:=kT) (t:=(c.1,c.2.1)) (l:=r7) (λn=>.rep bN n) tI rfl EW (0,0) tH l8 (λ_ _ _ h=>mL h) (qi (am y)) (qh _) qj) λ_ _ _ hn=>⟨hn.1,hn.2.1,trivial⟩) ?_;refine fr 1 ?_;refine aH rfl rfl (aF rfl jC rfl rfl rfl) ⟨rfl,rfl,trivial⟩ ?_;refine nl (bH (gh (a:=.rep bN (mV r7 (c.1,c.2.1) (0,0))) (a':=.agg (.pair (I ((mV r7 (c.1,c.2.1) (0,0)).1)) (I ((mV r7 (c.1,c.2.1) (0,0)).2)))) (AE.trans DY (AE.agg (AE.trans Ap (AE.pair AE.int AE.int))))) ?_);exact jz ((O,gw),((mV r7 (c.1,c.2.1) (0,0)).1,(mV r7 (c.1,c.2.1) (0,0)).2,c.2.2++[(mV r7 (c.1,c.2.1) (0,0)).1])) h [0,4,2,5,1]
     .refine xa ?_;exact jz (e.1,c.2.2) h [1,3,4]
    .refine sr (mq ?_);refine fr 2 ?_;refine aH rfl rfl (GT rfl rfl EW) ⟨rfl,trivial⟩ ?_;refine nt (sr (mq ?_));obtain⟨Q,M,h⟩:=aa h;refine fr 1 ?_;refine ka (au [.tmp 61] rfl rfl SN rfl (pC k s j Q M)) ?_;refine nt (sr (mq ?_));refine aq ?_;refine cq (nt (aA ?_));refine bH (jo [6,14,61,63] ⟨rfl,rfl,rfl,rfl,trivial⟩) ?_;cases h;exact rb
def kB(k:Nat)(a1:Int)(r3:(Option ab)×(List Int)×Int)(q4:ab):Nat->((List Int)×Int)->Option (List Int)
 |0,_=>none
 |n+1,y8=>
  if y8.2 < (r3.2.1.length:Int) then((((aP r3.2.1 y8.2).bind λh=>
  (io k q4 h a1).bind λc=>
  if 0≤c then((cH (bJ (length y8.1+length [c]))).bind λ_=>
  some (y8.1++[c])) else(some y8.1)):Option ((List Int))).bind λj=>
  (ck (y8.2+1)).bind λe=>
  kB k a1 r3 q4 n (j,e)) else(some y8.1)
def rO(k:Nat)(a0:ab)(a1:Int):Option (fi×Int):=
 (jf k a0 [a1] ([]:(List Int)) ([]:(List Int))).bind λr3=>
 f8 r3.1 (if¬(r3.2.2=0) then(some ((0,0),r3.2.2)) else(none)) (λq4=>if¬(r3.2.2=0) then(some ((0,0),r3.2.2)) else(((kB k a1 r3 q4 k (([]:(List Int)),0)):Option ((List Int))).bind λx6=>
 if(x6.length:Int)=0 then(some ((0,0),11)) else((ix k x6).bind λe=>
 (nK k x6).bind λc=>
 some ((e,c),0))))
theorem xl(k:Nat)(a0:ab)(a1:Int)(r:fi×Int)(h:rO k a0 a1=some r):
 bX (dN Tryz.prog) 42 [.rep ap a0,I a1] [] (λ_:Unit=>(bI [.rep bN r.1,I r.2],[])):=by
 unfold rO at h
 replace h:=bg h
 refine bX.of 51 Tryz.func42 rfl Tryz.ntmps42 rfl λS w0=>?_
 refine sr ?_
 refine bx λb1=>?_
 refine aV rfl rfl rfl (ba rfl AB QY) trivial λb2=>?_
 refine cq ?_
 refine nt ?_
 refine sr ?_
 refine fr 1 ?_
 refine lo fC ?_
 refine mq ?_
 refine ja (bb (t:=Ti) [(.tmp 15,_)] [a1] rfl rfl dS (.cons rfl .int .nil) rfl rfl) ?_
 obtain⟨r3,Y,h⟩:=aa h
 have s:=mQ k a0 [a1] ([]:(List Int)) ([]:(List Int)) r3 Y
 rcases hr:r3.1 with _ |q4
 .
  rw [hr] at h s;replace h:=vy h;refine aM (Δ:=[]) (F:=_) (λ_ _ _=>ag rfl _) rfl rfl (bO (N:=[(.tmp 14,.rep ap a0),(.tmp 16,.rep Tl [a1]),(.const (.slice none 0 0),.eq (.slice none 0 0)),(.const (.slice none 0 0),.eq (.slice none 0 0))]) (aU [.tmp 14,.tmp 16,.const (.slice none 0 0),.const (.slice none 0 0)] rfl rfl EB rfl s) λ_ _ _ hn=>⟨hn.1,hn.2.1,(aG (t:=Tl) (x:=([]:(List Int))) .nil rfl rfl hn.2.2.1),(aG (t:=Tl) (x:=([]:(List Int))) .nil rfl rfl hn.2.2.2.1),trivial⟩) ⟨rfl,rfl,rfl,rfl,trivial⟩ λ_=>?_;refine mq ?_;refine xr ?_;refine xr ?_;refine xr ?_;refine aq ?_;refine aq ?_;refine aq (nt (aj (sr ?_)));refine mq ?_;refine jb (fq rfl) ?_;refine nt (cn h (λh=>?_) (λh=>?_))
  .refine sr (cg rfl (dX [] rfl GF AB zZ (jD trivial) rfl) trivial ?_);refine mq ?_;refine fr 1 ?_;refine aH rfl rfl (aF rfl ve trivial rfl rfl) ⟨rfl,rfl,trivial⟩ ?_;refine aq (nt (rx ?_));refine bH (gh (a:=.agg (.pair (I 0) (I 0))) (a':=.rep bN (0,0)) (iY (.agg (.pair .int .int)))) ?_;cases h;exact aL () [.rep bN (0,0),_] 0 ⟨⟨_,_,_,_,_,rfl,(.head _),ve,(tq),rfl⟩,rfl,trivial⟩ rfl
  .cases h
 .
  rw [hr] at h s;replace h:=vx h;refine aM (Δ:=[]) (F:=_) (λ_ _ _=>ag rfl _) rfl rfl (bO (N:=[(.tmp 14,.rep ap a0),(.tmp 16,.rep Tl [a1]),(.const (.slice none 0 0),.eq (.slice none 0 0)),(.const (.slice none 0 0),.eq (.slice none 0 0))]) (aU [.tmp 14,.tmp 16,.const (.slice none 0 0),.const (.slice none 0 0)] rfl rfl EB rfl s) λ_ _ _ hn=>⟨hn.1,hn.2.1,(aG (t:=Tl) (x:=([]:(List Int))) .nil rfl rfl hn.2.2.1),(aG (t:=Tl) (x:=([]:(List Int))) .nil rfl rfl hn.2.2.2.1),trivial⟩) ⟨rfl,rfl,rfl,rfl,trivial⟩ λz5=>?_;refine mq ?_;refine xr ?_;refine xr ?_;refine xr ?_;refine aq ?_;refine aq ?_;refine aq (nt (aj (sr ?_)));refine mq ?_;refine jb (fq rfl) ?_;refine nt (cn h (λh=>?_) (λh=>?_))
  .refine sr (cg rfl (dX [] rfl GF AB zZ (jD trivial) rfl) trivial ?_);refine mq ?_;refine fr 3 ?_;refine aH rfl rfl (aF rfl ve trivial rfl rfl) ⟨rfl,rfl,trivial⟩ ?_;refine aq (nt (rx ?_));refine bH (gh (a:=.agg (.pair (I 0) (I 0))) (a':=.rep bN (0,0)) (iY (.agg (.pair .int .int)))) ?_;cases h;exact aL () [.rep bN (0,0),_] 0 ⟨⟨_,_,_,_,_,rfl,(.head _),ve,(tq),rfl⟩,rfl,trivial⟩ rfl
  .refine sk (sr (cq (nt ?_)));refine aJ (Z:=Value) (α:=(List Int)) (λz7 x6=>[(4,Pt b2),(9,.eq z7)]) (λz7 x6=>[.obj b2 67 (.agg (.pair (I 0) (I 0))),.sl z7 3 Ti x6,.inv z5.2 (bW k q4)]) h (λK h=>?_) (λz7 x6 h=>?_)
   .refine sr (mq ?_);refine ol AA ?_;refine eX rfl ?_;refine nt (ak (iD (SE.nil 3 Ti) ?_));refine aI (λz9 y8=>[(1,I a1),(4,Pt b2),(6,.eq (.pointer (some ⟨z5.1,0,none⟩))),(9,.eq z9),(25,.rep (.slice (.int .u8)) r3.2.1),(26,I (r3.2.1.length:Int)),(27,I y8.2)]) (λz9 y8=>[.obj b2 67 (.agg (.pair (I 0) (I 0))),.obj z5.1 135 (aR q4 z5.2),.sl z9 3 Ti y8.1,.inv z5.2 (bW k q4)]) (kB k a1 r3 q4) k (.slice none 0 0) (([]:(List Int)),0) (λ_=>rfl) h (SE.fin [4,1,0,2] ⟨rfl,rfl,rfl,rfl,rfl,rfl,rfl,trivial⟩ rfl) (λn z9 y8 h=>?_);unfold kB at h;refine sr (jb (bK rfl) ?_);refine nt (aj (ci h (λh=>?_) (λh=>?_)))
    .refine sk (aJ (Z:=Value) (α:=(List Int)) (λc e=>[(1,I a1),(4,Pt b2),(6,.eq (.pointer (some ⟨z5.1,0,none⟩))),(9,.eq c),(25,.rep (.slice (.int .u8)) r3.2.1),(26,I (r3.2.1.length:Int)),(27,I y8.2)]) (λc e=>[.obj b2 67 (.agg (.pair (I 0) (I 0))),.obj z5.1 135 (aR q4 z5.2),.sl c 3 Ti e,.inv z5.2 (bW k q4)]) h (λK h=>?_) (λc e h=>?_))
     .refine ak (sr ?_);obtain⟨U,D,h⟩:=aa h;refine jb (bo (t:=(.int .u8)) rfl AA pz D) ?_;refine ja (av (t:=(.int .u8)) rfl pz rfl) ?_;refine aq (nt (sr ?_));iterate 3 refine mq ?_
      obtain⟨u,O,h⟩:=aa h;refine fr 3 ?_;refine fr 2 ?_;refine aM (Δ:=[_,_]) (F:=_) (λ_ _ _=>ag rfl _) rfl rfl (aU [.tmp 31,.tmp 32,.tmp 33] rfl rfl Qx rfl (li k q4 z5.1 z5.2 U a1 u O)) ⟨rfl,rfl,rfl,trivial⟩ λ_=>?_;refine aq (nt (sr ?_));refine mq ?_;refine jb (ko rfl) ?_;refine nt (ci h (λh=>?_) (λh=>?_))
      .refine ae ?_;iterate 2 refine mq ?_
       refine ja (bb (t:=Ti) [(.tmp 38,_)] [u] rfl rfl dS (.cons rfl .int .nil) rfl rfl) ?_;obtain⟨gw,E,h⟩:=aa h;refine fr 3 ?_;refine dV rfl rfl rfl (cp rfl rfl dS (am E)) ⟨rfl,rfl,trivial⟩ λX=>?_;refine aq (aD (bn ?_));exact jz (X,y8.1++[u]) h [3,1,0,2]
      .refine bq (bn ?_);exact jz (z9,y8.1) h [2,0,3,1]
     .refine ae ?_;obtain⟨Q,y,h⟩:=aa h;refine jb (bG rfl y) ?_;refine mq (nl ?_);exact jz (c,(e,Q)) h [0,1,2,3]
    .refine xa ?_;exact jz (z9,y8.1) h [0,2,3]
   .refine aj (sr (mq ?_));refine fr 1 ?_;refine ka (mg rfl rfl jk) ?_;refine jb (gu rfl) ?_;refine nt (ci h (λh=>?_) (λh=>?_))
    .refine sr (cg rfl (dX [] rfl GF AB zZ (jD trivial) rfl) trivial ?_);refine fr 1 ?_;refine aH rfl rfl (aF rfl ve trivial rfl rfl) ⟨rfl,rfl,trivial⟩ ?_;refine cq (nt (rx ?_));refine bH (gh (a:=.agg (.pair (I 0) (I 0))) (a':=.rep bN (0,0)) (iY (.agg (.pair .int .int)))) ?_;cases h;exact aL () [.rep bN (0,0),_] 0 ⟨⟨_,_,_,_,_,rfl,(.head _),ve,(tq),rfl⟩,rfl,trivial⟩ rfl
    .refine sk (sr (mq ?_));obtain⟨l,M,h⟩:=aa h;refine ka (lz (N:=[(.tmp 46,.eq z7)]) (au [.tmp 46] rfl rfl QA rfl (nJ k x6 l M)) (λ_ _ _ hv hn=>⟨(lend hn.1 hv),trivial⟩) (λ_=>⟨rfl,og⟩)) ?_;refine mq ?_;obtain⟨j,J,h⟩:=aa h;refine ka (lz (N:=[(.tmp 48,.eq z7)]) (au [.tmp 48] rfl rfl SL rfl (tO k x6 j J)) (λ_ _ _ hv hn=>⟨(lend hn.1 hv),trivial⟩) (λ_=>⟨rfl,og⟩)) ?_;refine jb (dX [(0,.tmp 47,_),(1,.tmp 49,_)] rfl GF AB zZ (jD ⟨rfl,rfl,trivial⟩) rfl) ?_;refine fr 1 ?_;refine aH rfl rfl (aF rfl ve trivial rfl rfl) ⟨rfl,rfl,trivial⟩ ?_;refine cq (nt (aA ?_));refine bH (gh (a:=.agg (.pair (I l) (I j))) (a':=.rep bN (l,j)) (iY (.agg (.pair .int .int)))) ?_;cases h;exact aL () [.rep bN (l,j),_] 0 ⟨⟨_,_,_,_,_,rfl,(.head _),ve,(tq),rfl⟩,rfl,trivial⟩ rfl
def jv(k:Nat)(a1:Int)(a2:Int)(y4:(List (List (List Int)))×Int)(h:(List Int)):Nat->((List Int)×Int)->Option (List Int)
 |0,_=>none
 |n+1,c=>
  if c.2 < (h.length:Int) then((((aP h c.2).bind λe=>
  ((if y4.2 < a1 then(some true) else((eL k a2 e).bind λs=>
  some (!s))):Option (Bool)).bind λl=>
  if l=true then((cH (bJ (length c.1+length [e]))).bind λ_=>
  some (c.1++[e])) else(some c.1)):Option ((List Int))).bind λr=>
  (ck (c.2+1)).bind λj=>
  jv k a1 a2 y4 h n (r,j)) else(some c.1)
def jw(k:Nat)(a1:Int)(a2:Int)(y4:(List (List (List Int)))×Int)(x8:(List (List Int))):Nat->((List (List Int))×Int)->Option (List (List Int))
 |0,_=>none
 |n+1,c=>
  if c.2 < (x8.length:Int) then((((aP x8 c.2).bind λj=>
  ((jv k a1 a2 y4 j k (([]:(List Int)),0)):Option ((List Int))).bind λe=>
  (cH (bJ (length c.1+length [e]))).bind λ_=>
  some (c.1++[e])):Option ((List (List Int)))).bind λl=>
  (ck (c.2+1)).bind λh=>
  jw k a1 a2 y4 x8 n (l,h)) else(some c.1)
def jx(k:Nat)(a0:ab)(a1:Int)(a2:Int):Nat->((List (List (List Int)))×Int)->Option (List (List (List Int)))
 |0,_=>none
 |n+1,y4=>
  if y4.2 < (a0.2.2.2.2.1.length:Int) then((((aP a0.2.2.2.2.1 y4.2).bind λx8=>
  ((jw k a1 a2 y4 x8 k (([]:(List (List Int))),0)):Option ((List (List Int)))).bind λx9=>
  (cH (bJ (length y4.1+length [x9]))).bind λ_=>
  some (y4.1++[x9])):Option ((List (List (List Int))))).bind λx6=>
  (ck (y4.2+1)).bind λc=>
  jx k a0 a1 a2 n (x6,c)) else(some y4.1)
def mR(k:Nat)(a0:ab)(a1:Int)(a2:Int):Option (Option ab):=
 ((jx k a0 a1 a2 k (([]:(List (List (List Int)))),0)):Option ((List (List (List Int))))).bind λx2=>
 (iM k (a0.1,a0.2.1,a0.2.2.1,a0.2.2.2.1,x2,a0.2.2.2.2.2)).bind λc=>
 f8 c (some none) (λe=>some (some e))
theorem vq(k:Nat)(a0:ab)(a1:Int)(a2:Int)(r:(Option ab))(h:mR k a0 a1 a2=some r):
 dF Tryz.prog 85 [.rep ap a0,I a1,.eq (.int .u8 a2)] [] (λz:Nat×Nat=>(bI [JL r z.1],JK r λq=>qe q z.1 z.2 k)):=by
 unfold mR at h
 replace h:=bg h
 refine dF.of 69 Tryz.func85 rfl Tryz.ntmps85 rfl λS w0=>?_
 refine sr ?_
 refine bx λb1=>?_
 refine cq ?_
 refine nt ?_
 refine sr ?_
 refine fl dD ?_
 refine lo i8 ?_
 refine mq ?_
 refine ja (rD [.tmp 19] [] [(.int .u8 a2)] [] rfl rfl rfl) ?_
 refine aq ?_
 refine aq ?_
 refine nt ?_
 refine sr ?_
 refine fl dD ?_
 refine aH rfl rfl (aF rfl i8 rfl rfl rfl) ⟨rfl,rfl,trivial⟩ ?_
 refine nt ?_
 refine aJ (Z:=Value) (α:=(List (List (List Int)))) (λz3 x2=>[(3,Pt b1)]) (λz3 x2=>[.obj b1 25 (.agg (.pair (I a0.1) (.pair (I a0.2.1) (.pair (I a0.2.2.1) (.pair (I a0.2.2.2.1) (.pair (.eq z3) (Rs aY a0.2.2.2.2.2))))))),.sl z3 36 (.slice Tl) x2]) h (λK h=>?_) (λz3 x2 h=>?_)
 .
  refine sr (mq ?_);refine ol xY ?_;refine eX rfl ?_;refine nt (ak (iD (SE.nil 36 (.slice Tl)) ?_));refine dx 1 rfl ?_;refine iD (gh (a:=.agg (.pair (.rep Ti a0.1) (.pair (.rep Ti a0.2.1) (.pair (.rep Ti a0.2.2.1) (.pair (.rep Ti a0.2.2.2.1) (.pair (.eq (.slice none 0 0)) (Rs aY a0.2.2.2.2.2))))))) (a':=.agg (.pair (I a0.1) (.pair (I a0.2.1) (.pair (I a0.2.2.1) (.pair (I a0.2.2.2.1) (.pair (.eq (.slice none 0 0)) (Rs aY a0.2.2.2.2.2))))))) (AE.agg (AE.pair AE.int (AE.pair AE.int (AE.pair AE.int (AE.pair AE.int AE.rfl)))))) ?_;refine aI (λz5 y4=>[(1,I a1),(3,Pt b1),(8,.eq (.func (.func 97) #[(.int .u8 a2)] #[])),(22,.rep (.slice (.slice Tl)) a0.2.2.2.2.1),(23,I (a0.2.2.2.2.1.length:Int)),(24,I y4.2)]) (λz5 y4=>[.obj b1 25 (.agg (.pair (I a0.1) (.pair (I a0.2.1) (.pair (I a0.2.2.1) (.pair (I a0.2.2.2.1) (.pair (.eq z5) (Rs aY a0.2.2.2.2.2))))))),.sl z5 36 (.slice Tl) y4.1]) (jx k a0 a1 a2) k (.slice none 0 0) (([]:(List (List (List Int)))),0) (λ_=>rfl) h (SE.fin [0,1] ⟨rfl,rfl,rfl,rfl,rfl,rfl,trivial⟩ rfl) (λn z5 y4 h=>?_);unfold jx at h;refine sr (jb (bK rfl) ?_);refine nt (aj (ci h (λh=>?_) (λh=>?_)))
  .refine sk (aJ (Z:=Value) (α:=(List (List (List Int)))) (λz7 x6=>[(1,I a1),(3,Pt b1),(8,.eq (.func (.func 97) #[(.int .u8 a2)] #[])),(22,.rep (.slice (.slice Tl)) a0.2.2.2.2.1),(23,I (a0.2.2.2.2.1.length:Int)),(24,I y4.2)]) (λz7 x6=>[.obj b1 25 (.agg (.pair (I a0.1) (.pair (I a0.2.1) (.pair (I a0.2.2.1) (.pair (I a0.2.2.2.1) (.pair (.eq z7) (Rs aY a0.2.2.2.2.2))))))),.sl z7 36 (.slice Tl) x6]) h (λK h=>?_) (λz7 x6 h=>?_))
   .refine ak (sr (mq ?_));obtain⟨x8,UB,h⟩:=aa h;refine jb (bo (t:=(.slice Tl)) rfl xY vf UB) ?_;refine ja (av (t:=(.slice Tl)) rfl vf rfl) ?_;refine aq ?_;refine aq (nt (sr ?_));refine cq (nt ?_);refine aJ (Z:=Value) (α:=(List (List Int))) (λQ x9=>[(1,I a1),(3,Pt b1),(8,.eq (.func (.func 97) #[(.int .u8 a2)] #[])),(11,.eq Q),(22,.rep (.slice (.slice Tl)) a0.2.2.2.2.1),(23,I (a0.2.2.2.2.1.length:Int)),(24,I y4.2)]) (λQ x9=>[.obj b1 25 (.agg (.pair (I a0.1) (.pair (I a0.2.1) (.pair (I a0.2.2.1) (.pair (I a0.2.2.2.1) (.pair (.eq z5) (Rs aY a0.2.2.2.2.2))))))),.sl z5 36 (.slice Tl) y4.1,.sl Q 28 Tl x9]) h (λK h=>?_) (λQ x9 h=>?_)
    .refine sr (mq ?_);refine ol s9 ?_;refine eX rfl ?_;refine nt (ak (iD (SE.nil 28 Tl) ?_));refine aI (λe c=>[(1,I a1),(3,Pt b1),(8,.eq (.func (.func 97) #[(.int .u8 a2)] #[])),(9,I y4.2),(11,.eq e),(22,.rep (.slice (.slice Tl)) a0.2.2.2.2.1),(23,I (a0.2.2.2.2.1.length:Int)),(24,I y4.2),(29,.rep (.slice Tl) x8),(30,I (x8.length:Int)),(31,I c.2)]) (λe c=>[.obj b1 25 (.agg (.pair (I a0.1) (.pair (I a0.2.1) (.pair (I a0.2.2.1) (.pair (I a0.2.2.2.1) (.pair (.eq z5) (Rs aY a0.2.2.2.2.2))))))),.sl z5 36 (.slice Tl) y4.1,.sl e 28 Tl c.1]) (jw k a1 a2 y4 x8) k (.slice none 0 0) (([]:(List (List Int))),0) (λ_=>rfl) h (SE.fin [1,2,0] ⟨rfl,rfl,rfl,rfl,rfl,rfl,rfl,rfl,rfl,rfl,rfl,trivial⟩ rfl) (λn e c h=>?_);unfold jw at h;refine sr (jb (bK rfl) ?_);refine nt (aj (ci h (λh=>?_) (λh=>?_)))
     .refine sk (aJ (Z:=Value) (α:=(List (List Int))) (λE X=>[(1,I a1),(3,Pt b1),(8,.eq (.func (.func 97) #[(.int .u8 a2)] #[])),(9,I y4.2),(11,.eq E),(22,.rep (.slice (.slice Tl)) a0.2.2.2.2.1),(23,I (a0.2.2.2.2.1.length:Int)),(24,I y4.2),(29,.rep (.slice Tl) x8),(30,I (x8.length:Int)),(31,I c.2)]) (λE X=>[.obj b1 25 (.agg (.pair (I a0.1) (.pair (I a0.2.1) (.pair (I a0.2.2.1) (.pair (I a0.2.2.2.1) (.pair (.eq z5) (Rs aY a0.2.2.2.2.2))))))),.sl z5 36 (.slice Tl) y4.1,.sl E 28 Tl X]) h (λK h=>?_) (λE X h=>?_))
      .refine ak (sr ?_);obtain⟨u,Un,h⟩:=aa h;refine jb (bo (t:=Tl) rfl s9 jW Un) ?_;refine ja (av (t:=Tl) rfl jW rfl) ?_;refine aq (nt (sr ?_));refine cq (nt ?_);refine aJ (Z:=Value) (α:=(List Int)) (λO M=>[(1,I a1),(3,Pt b1),(8,.eq (.func (.func 97) #[(.int .u8 a2)] #[])),(9,I y4.2),(11,.eq e),(14,.eq O),(22,.rep (.slice (.slice Tl)) a0.2.2.2.2.1),(23,I (a0.2.2.2.2.1.length:Int)),(24,I y4.2),(29,.rep (.slice Tl) x8),(30,I (x8.length:Int)),(31,I c.2)]) (λO M=>[.obj b1 25 (.agg (.pair (I a0.1) (.pair (I a0.2.1) (.pair (I a0.2.2.1) (.pair (I a0.2.2.2.1) (.pair (.eq z5) (Rs aY a0.2.2.2.2.2))))))),.sl z5 36 (.slice Tl) y4.1,.sl e 28 Tl c.1,.sl O 3 Ti M]) h (λK h=>?_) (λO M h=>?_)
       .refine sr (mq ?_);refine ol jk ?_;refine eX rfl ?_;refine nt (ak (iD (SE.nil 3 Ti) ?_));refine aI (λl j=>[(1,I a1),(3,Pt b1),(8,.eq (.func (.func 97) #[(.int .u8 a2)] #[])),(9,I y4.2),(11,.eq e),(14,.eq l),(22,.rep (.slice (.slice Tl)) a0.2.2.2.2.1),(23,I (a0.2.2.2.2.1.length:Int)),(24,I y4.2),(29,.rep (.slice Tl) x8),(30,I (x8.length:Int)),(31,I c.2),(35,.rep Tl u),(36,I (u.length:Int)),(37,I j.2)]) (λl j=>[.obj b1 25 (.agg (.pair (I a0.1) (.pair (I a0.2.1) (.pair (I a0.2.2.1) (.pair (I a0.2.2.2.1) (.pair (.eq z5) (Rs aY a0.2.2.2.2.2))))))),.sl z5 36 (.slice Tl) y4.1,.sl e 28 Tl c.1,.sl l 3 Ti j.1]) (jv k a1 a2 y4 u) k (.slice none 0 0) (([]:(List Int)),0) (λ_=>rfl) h (SE.fin [1,2,3,0] ⟨rfl,rfl,rfl,rfl,rfl,rfl,rfl,rfl,rfl,rfl,rfl,rfl,rfl,rfl,rfl,trivial⟩ rfl) (λn l j h=>?_);unfold jv at h;refine sr (jb (bK rfl) ?_);refine nt (aj (ci h (λh=>?_) (λh=>?_)))
        .refine sk (aJ (Z:=Value) (α:=(List Int)) (λD U=>[(1,I a1),(3,Pt b1),(8,.eq (.func (.func 97) #[(.int .u8 a2)] #[])),(9,I y4.2),(11,.eq e),(14,.eq D),(22,.rep (.slice (.slice Tl)) a0.2.2.2.2.1),(23,I (a0.2.2.2.2.1.length:Int)),(24,I y4.2),(29,.rep (.slice Tl) x8),(30,I (x8.length:Int)),(31,I c.2),(35,.rep Tl u),(36,I (u.length:Int)),(37,I j.2)]) (λD U=>[.obj b1 25 (.agg (.pair (I a0.1) (.pair (I a0.2.1) (.pair (I a0.2.2.1) (.pair (I a0.2.2.2.1) (.pair (.eq z5) (Rs aY a0.2.2.2.2.2))))))),.sl z5 36 (.slice Tl) y4.1,.sl e 28 Tl c.1,.sl D 3 Ti U]) h (λK h=>?_) (λD U h=>?_))
         .refine ak (sr ?_);obtain⟨J,Um,h⟩:=aa h;refine jb (bo (t:=Ti) rfl jk cQ Um) ?_;refine ja (av (t:=Ti) rfl cQ rfl) ?_;refine aq (nt ?_);refine aJ (Z:=Unit) (α:=Bool) (λmc gw=>[(1,I a1),(3,Pt b1),(8,.eq (.func (.func 97) #[(.int .u8 a2)] #[])),(9,I y4.2),(11,.eq e),(14,.eq l),(16,I J),(22,.rep (.slice (.slice Tl)) a0.2.2.2.2.1),(23,I (a0.2.2.2.2.1.length:Int)),(24,I y4.2),(29,.rep (.slice Tl) x8),(30,I (x8.length:Int)),(31,I c.2),(35,.rep Tl u),(36,I (u.length:Int)),(37,I j.2),(49,.eq (.bool gw))]) (λmc gw=>[.obj b1 25 (.agg (.pair (I a0.1) (.pair (I a0.2.1) (.pair (I a0.2.2.1) (.pair (I a0.2.2.2.1) (.pair (.eq z5) (Rs aY a0.2.2.2.2.2))))))),.sl z5 36 (.slice Tl) y4.1,.sl e 28 Tl c.1,.sl l 3 Ti j.1]) h (λK h=>?_) (λmc gw h=>?_)
          .refine ae ?_;iterate 2 refine mq ?_
           refine jb (bK rfl) ?_;refine mq ?_;refine cF (s:=44) rfl (λhb=>?_) (λhb=>?_)
           .replace h:=eU (sP hb) h;iterate 4 refine gn ?_
            refine pt (nl ?_);exact jz ((),true) h [0,1,2,3]
           .replace h:=cV (sQ hb) h;refine gm ?_;refine gm ?_;obtain⟨qt,Ut,h⟩:=aa h;refine gb (tl (fs:=[(.int .u8 a2)]) (cs:=[]) (ags:=[I J]) [.tmp 46] rfl rfl HZ rfl (gx k a2 J qt Ut)) ?_;refine ga (iK rfl) ?_;refine pf (nl ?_);exact jz ((), !qt) h [0,1,2,3]
          .refine cv h (λh=>?_) (λh=>?_)
           .refine ae ?_;iterate 2 refine mq ?_
            refine ja (bb (t:=Ti) [(.tmp 51,_)] [J] rfl rfl dS (.cons rfl .int .nil) rfl rfl) ?_;obtain⟨UD,Ur,h⟩:=aa h;refine fr 3 ?_;refine dV rfl rfl rfl (cp rfl rfl dS (am Ur)) ⟨rfl,rfl,trivial⟩ λUA=>?_;refine aq (aD (bn ?_));exact jz (UA,j.1++[J]) h [1,2,3,0]
           .refine bq (bn ?_);exact jz (l,j.1) h [0,1,2,3]
         .refine ae ?_;obtain⟨Ux,Ul,h⟩:=aa h;refine jb (bG rfl Ul) ?_;refine mq (nl ?_);exact jz (D,(U,Ux)) h [0,1,2,3]
        .refine xa ?_;exact jz (l,j.1) h [0,1,2,3]
       .refine ae ?_;iterate 2 refine mq ?_
        refine fr 3 ?_;refine eE (jo [14,56] ⟨rfl,rfl,trivial⟩) ?_;refine ja (bb (t:=Tl) [(.tmp 56,_)] [M] rfl rfl pe (.cons rfl .rep .nil) rfl rfl) ?_;obtain⟨UC,Up,h⟩:=aa h;refine fr 2 ?_;refine dV rfl rfl rfl (cp rfl rfl pe (am Up)) ⟨rfl,rfl,trivial⟩ λUz=>?_;refine aq (aD (bn ?_));exact jz (Uz,c.1++[M]) h [1,2,0]
      .refine ae ?_;obtain⟨Uw,Uk,h⟩:=aa h;refine jb (bG rfl Uk) ?_;refine mq (nl ?_);exact jz (E,(X,Uw)) h [0,1,2]
     .refine xa ?_;exact jz (e,c.1) h [0,1,2]
    .refine ae (fl dD ?_);refine lo i8 ?_;refine mq ?_;refine fr 2 ?_;refine eE (jo [11,62] ⟨rfl,rfl,trivial⟩) ?_;refine ja (bb (t:=(.slice Tl)) [(.tmp 62,_)] [x9] rfl rfl wT (.cons rfl .rep .nil) rfl rfl) ?_;obtain⟨u32,Uo,h⟩:=aa h;refine fr 1 ?_;refine dV rfl rfl rfl (cp rfl rfl wT (am Uo)) ⟨rfl,rfl,trivial⟩ λUy=>?_;refine fl dD ?_;refine nh λo34=>?_;refine fr 1 ?_;refine aH rfl rfl (aF rfl i8 o34 rfl rfl) ⟨rfl,rfl,trivial⟩ ?_;refine aD (bn ?_);exact jz (Uy,y4.1++[x9]) h [0,1]
   .refine ae ?_;obtain⟨Uu,zz,h⟩:=aa h;refine jb (bG rfl zz) ?_;refine mq (nl ?_);exact jz (z7,(x6,Uu)) h [0,1]
  .refine xa ?_;exact jz (z5,y4.1) h [0,1]
 .
  refine sr (fr 1 ?_);refine eE (jm (off:=4) [] trivial rfl rfl) ?_;refine lo fC ?_;obtain⟨mw,Us,h⟩:=aa h;have y:=nm k (a0.1,a0.2.1,a0.2.2.1,a0.2.2.2.1,x2,a0.2.2.2.2.2) mw Us;rcases hr:mw with _ |UE
  .rw [hr] at h y;replace h:=vy h;refine aM (Δ:=[]) (F:=_) (λ_ _ _=>ag rfl _) rfl rfl (bO (N:=[(.tmp 67,.agg (.pair (I a0.1) (.pair (I a0.2.1) (.pair (I a0.2.2.1) (.pair (I a0.2.2.2.1) (.pair (.rep (.slice (.slice Tl)) x2) (Rs aY a0.2.2.2.2.2)))))))]) (au [.tmp 67] rfl rfl KX rfl y) λ_ _ _ hn=>⟨(aG (t:=ap) (x:=(a0.1,a0.2.1,a0.2.2.1,a0.2.2.2.1,x2,a0.2.2.2.2.2)) (.agg (.pair .int (.pair .int (.pair .int (.pair .int (.pair .rep .rep)))))) trivial rfl hn.1),trivial⟩) ⟨rfl,trivial⟩ λ_=>?_;refine aq (nt (aA ?_));cases h;exact aL (0,0) [.eq (.pointer none)] 0 ⟨rfl,trivial⟩ rfl
  .rw [hr] at h y;replace h:=vx h;refine aM (Δ:=[]) (F:=_) (λ_ _ _=>ag rfl _) rfl rfl (bO (N:=[(.tmp 67,.agg (.pair (I a0.1) (.pair (I a0.2.1) (.pair (I a0.2.2.1) (.pair (I a0.2.2.2.1) (.pair (.rep (.slice (.slice Tl)) x2) (Rs aY a0.2.2.2.2.2)))))))]) (au [.tmp 67] rfl rfl KX rfl y) λ_ _ _ hn=>⟨(aG (t:=ap) (x:=(a0.1,a0.2.1,a0.2.2.1,a0.2.2.2.1,x2,a0.2.2.2.2.2)) (.agg (.pair .int (.pair .int (.pair .int (.pair .int (.pair .rep .rep)))))) trivial rfl hn.1),trivial⟩) ⟨rfl,trivial⟩ λY=>?_;refine aq (nt (aA ?_));cases h;exact aL (Y.1,Y.2) [.eq (.pointer (some ⟨Y.1,0,none⟩))] 2 ⟨rfl,trivial⟩ rfl
def eN(k:Nat)(a0:ab)(r1:(List (List Int)))(y5:Int):Nat->Int->Option (Except Bool Unit)
 |0,_=>none
 |n+1,c=>
  if c < a0.1 then((((aP r1 y5).bind λs=>
  (aP s c).bind λr=>
  if r < 0 then((ck (y5+1)).bind λl=>
  (aP r1 l).bind λj=>
  (aP j c).bind λh=>
  some (decide (h=0))) else(some false)):Option (Bool)).bind λu=>
  if u=true then(some (.error true)) else((ck (c+1)).bind λe=>
  eN k a0 r1 y5 n e)) else(some (.ok ()))
def eO(k:Nat)(a0:ab)(r1:(List (List Int))):Nat->Int->Option (Except Bool Unit)
 |0,_=>none
 |n+1,y5=>
  if y5 < (a0.2.2.2.2.1.length:Int) then(bE (α:=Unit) ((ck (y5+1)).bind λx9=>
  (aP r1 x9).bind λh=>
  (aP r1 y5).bind λc=>
  (cH (wX h/\wX c)).bind λ_=>
  if h=c then(some (.ok ())) else(eN k a0 r1 y5 k 0)) (λe=>some (.error e)) λ_=>
  (ck (y5+1)).bind λj=>
  eO k a0 r1 n j) else(some (.ok ()))
def iN(k:Nat)(a0:ab)(a1:Int)(a2:Int):Option Bool:=
 (kE k a0 a1).bind λr1=>
 bE (α:=Unit) (eO k a0 r1 k a2) (some) λ_=>
 some false
theorem nW(k:Nat)(a0:ab)(c z_a0:Nat)(a1:Int)(a2:Int)(r:Bool)(h:iN k a0 a1 a2=some r):
 bX (dN Tryz.prog) 87 [Pt c,.eq (.int .u8 a1),I a2] [.obj c 135 (aR a0 z_a0),.inv z_a0 (bW k a0)] (λ_:Unit=>(bI [.eq (.bool r)],[.obj c 135 (aR a0 z_a0),.inv z_a0 (bW k a0)])):=by
 unfold iN at h
 replace h:=bg h
 refine bX.of 56 Tryz.func87 rfl Tryz.ntmps87 rfl λS w0=>?_
 refine sr ?_
 refine cq ?_
 refine nt ?_
 refine sr ?_
 iterate 2 refine mq ?_
 obtain⟨r1,Uk,h⟩:=aa h
 have Ul:=oQ k a0 c z_a0 a1 r1 Uk
 refine fr 1 ?_
 refine fr 1 ?_
 refine aM (Δ:=[_,_]) (F:=_) (λ_ _ _=>ag rfl _) rfl rfl (aU [.tmp 10,.tmp 11] rfl rfl EC rfl Ul) ⟨rfl,rfl,trivial⟩ λ_=>?_
 refine aV rfl rfl rfl (ba rfl Fe Im) trivial λb2=>?_
 refine aH rfl rfl (aF rfl F4 rfl rfl rfl) ⟨rfl,rfl,trivial⟩ ?_
 refine eE (jl (t:=(.arr 7 Tr)) (x:=r1) [7] .rep ⟨rfl,trivial⟩) ?_
 refine nt ?_
 refine dI (Z:=Unit) (α:=Unit) (λz4 x3=>[]) (λz4 x3=>[.obj c 135 (aR a0 z_a0),.inv z_a0 (bW k a0)]) (λe=>e=r) h (λe h=>Option.some.inj h) (λK hR h=>?_) (λz4 x3 h=>?_)
 .
  refine sr (mq ?_);refine aq (nt (ak ?_));refine aI (λz6 y5=>[(0,Pt c),(7,.at (.arr 7 Tr) r1),(8,I y5)]) (λz6 y5=>[.obj c 135 (aR a0 z_a0),.inv z_a0 (bW k a0)]) (eO k a0 r1) k () a2 (λ_=>rfl) h (SE.fin [0,1] ⟨rfl,rfl,rfl,trivial⟩ rfl) (λn z6 y5 h=>?_);unfold eO at h;refine aj (sr ?_);iterate 2 refine mq ?_
  refine ja (cL rfl) ?_;refine fl gV ?_;refine fl dD ?_;refine lo i8 ?_;refine ol xY ?_;refine jb (bK rfl) ?_;refine nt (ci h (λh=>?_) (λh=>?_))
  .refine sk (dI (Z:=Unit) (α:=Unit) (λz8 x7=>[(0,Pt c),(7,.at (.arr 7 Tr) r1),(8,I y5)]) (λz8 x7=>[.obj c 135 (aR a0 z_a0),.inv z_a0 (bW k a0)]) (λe=>e=r) h (λe h=>hR e h) (λK hR h=>?_) (λz8 x7 h=>?_))
   .refine ak (aj (aj (cO ?_)));refine dm ?_;obtain⟨x9,zz,h⟩:=aa h;refine db (bG rfl zz) ?_;obtain⟨Us,gw,h⟩:=aa h;refine db (cj (t:=Tr) rfl I3 iZ gw) ?_;refine da (av (t:=Tr) rfl iZ rfl) ?_;refine dm ?_;obtain⟨Ur,Y,h⟩:=aa h;refine db (cj (t:=Tr) rfl I3 iZ Y) ?_;refine da (av (t:=Tr) rfl iZ rfl) ?_;refine df eo ?_;obtain⟨Ut,l,h⟩:=aa h;refine jb (GR rfl (am l).1 (am l).2) ?_;refine nt (ci h (λh=>?_) (λh=>?_))
    .refine gX (cy (dE (an ?_)));exact jz ((),()) h [0,1]
    .refine sk (sr (mq ?_));refine ja (cL rfl) ?_;refine fl gV ?_;refine fl gI ?_;refine lo cQ ?_;refine eX rfl ?_;refine nt (ak (aI (λD j=>[(0,Pt c),(7,.at (.arr 7 Tr) r1),(8,I y5),(36,I a0.1),(37,I j)]) (λD j=>[.obj c 135 (aR a0 z_a0),.inv z_a0 (bW k a0)]) (eN k a0 r1 y5) k () 0 (λ_=>rfl) h (SE.fin [0,1] ⟨rfl,rfl,rfl,rfl,rfl,trivial⟩ rfl) (λn D j h=>?_)));unfold eN at h;refine sr (jb (bK rfl) ?_);refine nt (aj (ci h (λh=>?_) (λh=>?_)))
     .refine sk (aj (ak (sr (mq ?_))));refine aq (nt ?_);refine aJ (Z:=Unit) (α:=Bool) (λy u=>[(0,Pt c),(7,.at (.arr 7 Tr) r1),(8,I y5),(36,I a0.1),(37,I j),(54,.eq (.bool u))]) (λy u=>[.obj c 135 (aR a0 z_a0),.inv z_a0 (bW k a0)]) h (λK h=>?_) (λy u h=>?_)
      .refine ae ?_;iterate 2 refine mq ?_
       obtain⟨Up,X,h⟩:=aa h;refine jb (cj (t:=Tr) rfl I3 iZ X) ?_;obtain⟨Uo,U,h⟩:=aa h;refine jb (cj (t:=Ti) rfl BP cQ U) ?_;refine ja (av (t:=Ti) rfl cQ rfl) ?_;refine jb (bK rfl) ?_;refine mq ?_;refine cF (s:=46) rfl (λhb=>?_) (λhb=>?_)
       .replace h:=eU (sP hb) h;refine gm ?_;obtain⟨Un,Q,h⟩:=aa h;refine gb (bG rfl Q) ?_;refine gm ?_;obtain⟨Um,O,h⟩:=aa h;refine gb (cj (t:=Tr) rfl I3 iZ O) ?_;obtain⟨qt,M,h⟩:=aa h;refine gb (cj (t:=Ti) rfl BP cQ M) ?_;refine ga (av (t:=Ti) rfl cQ rfl) ?_;refine gb (gu rfl) ?_;refine pt (nl ?_);exact jz ((),decide (qt=0)) h [0,1]
       .replace h:=cV (sQ hb) h;iterate 7 refine gn ?_
        refine pf (nl ?_);exact jz ((),false) h [0,1]
      .refine cv h (λh=>?_) (λh=>?_)
       .refine sr (cq (nt (aA (br (bP (br (bP (bF ?_))))))));obtain rfl:=hR _ h;exact aL () [_] 2 ⟨rfl,trivial⟩ rfl
       .refine bq (aS (tn (ae ?_)));obtain⟨mw,J,h⟩:=aa h;refine jb (bG rfl J) ?_;refine mq (nl ?_);exact jz ((),mw) h [0,1]
     .refine gX (cy (cy (dE (bn ?_))));exact jz ((),()) h [0,1]
   .refine ae (mq ?_);obtain⟨mc,E,h⟩:=aa h;refine jb (bG rfl E) ?_;refine aq (nl ?_);exact jz ((),mc) h [0,1]
  .refine xa ?_;exact jz ((),()) h [0,1]
 .
  refine sr (cq (nt (aA ?_)));cases h;exact aL () [_] 2 ⟨rfl,trivial⟩ rfl
def mU(k:Nat)(a0:Int)(a1:ab)(a2:Int):Option Bool:=
 (iN k a1 a0 a2).bind λr1=>
 some r1
theorem s6(k:Nat)(a0:Int)(a1:ab)(c z_a1 j:Nat)(a2:Int)(e:Nat)(r:Bool)(h:mU k a0 a1 a2=some r):
 bX (dN Tryz.prog) 86 [.eq (.int .u8 a0),Pt j,Pt e] [.obj c 135 (aR a1 z_a1),.inv z_a1 (bW k a1),.obj j 77 (Pt c),.obj e 3 (I a2)] (λ_:Unit=>(bI [.eq (.bool r)],[.obj c 135 (aR a1 z_a1),.inv z_a1 (bW k a1),.obj j 77 (Pt c),.obj e 3 (I a2)])):=by
 unfold mU at h
 replace h:=bg h
 refine bX.of 9 Tryz.func86 rfl Tryz.ntmps86 rfl λS w0=>?_
 refine sr ?_
 refine cq ?_
 refine nt ?_
 refine sr ?_
 refine fr 2 ?_
 refine lo Jo ?_
 refine mq ?_
 refine fr 3 ?_
 refine lo cQ ?_
 obtain⟨r1,l,h⟩:=aa h
 have n:=nW k a1 c z_a1 a0 a2 r1 l
 refine fr 3 ?_
 refine fr 3 ?_
 refine aM (Δ:=[_,_]) (F:=_) (λ_ _ _=>ag rfl _) rfl rfl (aU [.tmp 5,.tmp 6,.tmp 7] rfl rfl SJ rfl n) ⟨rfl,rfl,rfl,trivial⟩ λ_=>?_
 refine aq ?_
 refine nt ?_
 refine aA ?_
 refine bH (SE.fin (Γ':=[(4,_)]) [0,1,3,2] ⟨rfl,trivial⟩ rfl) ?_
 cases h
 exact aL () [_] 4 ⟨rfl,trivial⟩ rfl
def eI(k:Nat)(a0:(List Int))(a1_0:ab)(a1_1:Int):Nat->Int->Option (Except Int Unit)
 |0,_=>none
 |n+1,y3=>
  if y3 < (a0.length:Int) then((aP a0 y3).bind λx5=>
  (mU k x5 a1_0 a1_1).bind λr6=>
  if r6=true then(some (.error y3)) else((ck (y3+1)).bind λx7=>
  eI k a0 a1_0 a1_1 n x7)) else(some (.ok ()))
def iI(k:Nat)(a0:(List Int))(a1_0:ab)(a1_1:Int):Option Int:=
 bE (α:=Unit) (eI k a0 a1_0 a1_1 k 0) (some) λ_=>
 some (-1:Int)
theorem nL(k:Nat)(a0:(List Int))(a1_0:ab)(b_a1_0 z_a1_0 c_a1_0:Nat)(a1_1:Int)(c_a1_1:Nat)(r:Int)(h:iI k a0 a1_0 a1_1=some r):
 bX (dN Tryz.prog) 108 [.rep (.slice (.int .u8)) a0,.eq (.func (.func 86) #[] #[(Pv c_a1_0),(Pv c_a1_1)])] [.obj b_a1_0 135 (aR a1_0 z_a1_0),.inv z_a1_0 (bW k a1_0),.obj c_a1_0 77 (Pt b_a1_0),.obj c_a1_1 3 (I a1_1)] (λ_:Unit=>(bI [I r],[.obj b_a1_0 135 (aR a1_0 z_a1_0),.inv z_a1_0 (bW k a1_0),.obj c_a1_0 77 (Pt b_a1_0),.obj c_a1_1 3 (I a1_1)])):=by
 unfold iI at h
 replace h:=bg h
 refine bX.of 19 Tryz.func108 rfl Tryz.ntmps108 rfl λS w0=>?_
 refine sr ?_
 refine cq ?_
 refine nt ?_
 refine dI (Z:=Unit) (α:=Unit) (λz2 x1=>[]) (λz2 x1=>[.obj b_a1_0 135 (aR a1_0 z_a1_0),.inv z_a1_0 (bW k a1_0),.obj c_a1_0 77 (Pt b_a1_0),.obj c_a1_1 3 (I a1_1)]) (λe=>e=r) h (λe h=>Option.some.inj h) (λK hR h=>?_) (λz2 x1 h=>?_)
 .
  refine sr (mq ?_);refine ol AA ?_;refine eX rfl ?_;refine nt (ak (aI (λz4 y3=>[(0,.rep (.slice (.int .u8)) a0),(1,.eq (.func (.func 86) #[] #[(Pv c_a1_0),(Pv c_a1_1)])),(7,I (a0.length:Int)),(8,I y3)]) (λz4 y3=>[.obj c_a1_0 77 (Pt b_a1_0),.obj b_a1_0 135 (aR a1_0 z_a1_0),.obj c_a1_1 3 (I a1_1),.inv z_a1_0 (bW k a1_0)]) (eI k a0 a1_0 a1_1) k () 0 (λ_=>rfl) h (SE.fin [2,0,3,1] ⟨rfl,rfl,rfl,rfl,trivial⟩ rfl) (λn z4 y3 h=>?_)));unfold eI at h;refine sr (jb (bK rfl) ?_);refine nt (aj (ci h (λh=>?_) (λh=>?_)))
  .refine sk (aj (ak (sr (mq ?_))));refine aq (nt (sr ?_));iterate 3 refine mq ?_
   obtain⟨x5,j,h⟩:=aa h;refine jb (bo (t:=(.int .u8)) rfl AA pz j) ?_;refine ja (av (t:=(.int .u8)) rfl pz rfl) ?_;obtain⟨r6,l,h⟩:=aa h;refine fr 2 ?_;refine fr 1 ?_;refine fr 3 ?_;refine fr 3 ?_;refine aM (Δ:=[_,_,_,_]) (F:=_) (λ_ _ _=>ag rfl _) rfl rfl (qy (fs:=[]) (cs:=[(Pv c_a1_0),(Pv c_a1_1)]) (ags:=[.eq (.int .u8 x5)]) [.tmp 15] rfl rfl SK rfl (s6 k x5 a1_0 b_a1_0 z_a1_0 c_a1_0 a1_1 c_a1_1 r6 l)) ⟨rfl,rfl,trivial⟩ λ_=>?_;refine nt (cv h (λh=>?_) (λh=>?_))
   .refine sr (mq ?_);refine aq (nt (aA (br (bP (bF ?_)))));obtain rfl:=hR _ h;exact aL () [_] 4 ⟨rfl,trivial⟩ rfl
   .refine bq (aS (tn (ae ?_)));obtain⟨x7,c,h⟩:=aa h;refine jb (bG rfl c) ?_;refine mq (nl ?_);exact jz ((),x7) h [2,0,3,1]
  .refine xa ?_;exact jz ((),()) h [1,3,0,2]
 .
  refine sr (cq (nt (aA ?_)));cases h;exact aL () [_] 4 ⟨rfl,trivial⟩ rfl
def eJ(k:Nat)(a0:(List Int))(a1_0:ab)(a1_1:Int):Option Bool:=
 (iI k a0 a1_0 a1_1).bind λr1=>
 some (decide (0≤r1))
theorem me(k:Nat)(a0:(List Int))(a1_0:ab)(b_a1_0 z_a1_0 c_a1_0:Nat)(a1_1:Int)(c_a1_1:Nat)(r:Bool)(h:eJ k a0 a1_0 a1_1=some r):
 bX (dN Tryz.prog) 88 [.rep (.slice (.int .u8)) a0,.eq (.func (.func 86) #[] #[(Pv c_a1_0),(Pv c_a1_1)])] [.obj b_a1_0 135 (aR a1_0 z_a1_0),.inv z_a1_0 (bW k a1_0),.obj c_a1_0 77 (Pt b_a1_0),.obj c_a1_1 3 (I a1_1)] (λ_:Unit=>(bI [.eq (.bool r)],[.obj b_a1_0 135 (aR a1_0 z_a1_0),.inv z_a1_0 (bW k a1_0),.obj c_a1_0 77 (Pt b_a1_0),.obj c_a1_1 3 (I a1_1)])):=by
 unfold eJ at h
 replace h:=bg h
 refine bX.of 9 Tryz.func88 rfl Tryz.ntmps88 rfl λS w0=>?_
 refine sr ?_
 refine cq ?_
 refine nt ?_
 refine sr ?_
 iterate 2 refine mq ?_
 obtain⟨r1,c,h⟩:=aa h
 have e:=nL k a0 a1_0 b_a1_0 z_a1_0 c_a1_0 a1_1 c_a1_1 r1 c
 refine fr 3 ?_
 refine fr 3 ?_
 refine fr 3 ?_
 refine fr 3 ?_
 refine aM (Δ:=[_,_,_,_]) (F:=_) (λ_ _ _=>ag rfl _) rfl rfl (aU [.tmp 5,.tmp 6] rfl rfl QO rfl e) ⟨rfl,rfl,trivial⟩ λ_=>?_
 refine jb (ko rfl) ?_
 refine aq ?_
 refine nt ?_
 refine aA ?_
 cases h
 exact aL () [_] 4 ⟨rfl,trivial⟩ rfl
def pR(k:Nat)(a0:ab)(a1:Int):Option ((List Int)×Int):=
 (jf k a0 ([]:(List Int)) [a1] ([]:(List Int))).bind λr3=>
 f8 r3.1 (if¬(r3.2.2=0) then(some (([]:(List Int)),r3.2.2)) else(none)) (λq4=>if¬(r3.2.2=0) then(some (([]:(List Int)),r3.2.2)) else((jI k (ql (λ(c:(List Int)) (e:Int)=>
  (mR k a0 a1 e).bind λr=>
  f8 r (none) (λs=>(eJ k r3.2.1 s a1).bind λn=>
  if¬(n=true) then((cH (bJ (length c+length [e]))).bind λ_=>
  some (c++[e],true)) else(some (c,true))))) a0.1 (([]:(List Int)),false)).bind λh=>
 if h.2=true then(none) else((pN k h.1).bind λl=>
 (fM k l).bind λj=>
 some (j,0))))
theorem vu(k:Nat)(a0:ab)(a1:Int)(r:(List Int)×Int)(h:pR k a0 a1=some r):
 bX (dN Tryz.prog) 45 [.rep ap a0,I a1] [] (λ_:Unit=>(bI [.rep Tl r.1,I r.2],[])):=by
 unfold pR at h
 replace h:=bg h
 refine uS 44 Tryz.func45 rfl Tryz.ntmps45 rfl λS w0=>?_
 refine sr ?_
 refine bx λb1=>?_
 refine bx λb2=>?_
 refine cq ?_
 refine cq ?_
 refine nt ?_
 refine sr ?_
 refine fr 1 ?_
 refine lo fC ?_
 refine fr 1 ?_
 refine lo cQ ?_
 refine ja (bb (t:=Ti) [(.tmp 15,_)] [a1] rfl rfl dS (.cons rfl .int .nil) rfl rfl) ?_
 obtain⟨r3,Um,h⟩:=aa h
 have y:=mQ k a0 ([]:(List Int)) [a1] ([]:(List Int)) r3 Um
 rcases hr:r3.1 with _ |q4
 .
  rw [hr] at h y;replace h:=vy h;refine aM (Δ:=[]) (F:=_) (λ_ _ _=>ag rfl _) rfl rfl (bO (N:=[(.tmp 14,.rep ap a0),(.const (.slice none 0 0),.eq (.slice none 0 0)),(.tmp 16,.rep Tl [a1]),(.const (.slice none 0 0),.eq (.slice none 0 0))]) (aU [.tmp 14,.const (.slice none 0 0),.tmp 16,.const (.slice none 0 0)] rfl rfl EB rfl y) λ_ _ _ hn=>⟨hn.1,(aG (t:=Tl) (x:=([]:(List Int))) .nil rfl rfl hn.2.1),hn.2.2.1,(aG (t:=Tl) (x:=([]:(List Int))) .nil rfl rfl hn.2.2.2.1),trivial⟩) ⟨rfl,rfl,rfl,rfl,trivial⟩ λ_=>?_;refine mq ?_;refine xr ?_;refine xr ?_;refine xr ?_;refine aV rfl rfl rfl (ba rfl I5 Lq) trivial λb5=>?_;refine aq ?_;refine aH rfl rfl (aF rfl wR rfl rfl rfl) ⟨rfl,rfl,trivial⟩ ?_;refine aq (nt (aj (sr ?_)));refine mq ?_;refine jb (fq rfl) ?_;refine nt (cn h (λh=>?_) (λh=>?_))
  .refine sr (mq ?_);refine cq ?_;refine aq (nt (rx ?_));refine bH (eu (t:=Tl) (x:=([]:(List Int))) 4 rfl .nil rfl rfl) ?_;refine Aj ?_;cases h;exact rb
  .cases h
 .
  rw [hr] at h y;replace h:=vx h;refine aM (Δ:=[]) (F:=_) (λ_ _ _=>ag rfl _) rfl rfl (bO (N:=[(.tmp 14,.rep ap a0),(.const (.slice none 0 0),.eq (.slice none 0 0)),(.tmp 16,.rep Tl [a1]),(.const (.slice none 0 0),.eq (.slice none 0 0))]) (aU [.tmp 14,.const (.slice none 0 0),.tmp 16,.const (.slice none 0 0)] rfl rfl EB rfl y) λ_ _ _ hn=>⟨hn.1,(aG (t:=Tl) (x:=([]:(List Int))) .nil rfl rfl hn.2.1),hn.2.2.1,(aG (t:=Tl) (x:=([]:(List Int))) .nil rfl rfl hn.2.2.2.1),trivial⟩) ⟨rfl,rfl,rfl,rfl,trivial⟩ λz6=>?_;refine mq ?_;refine xr ?_;refine xr ?_;refine xr ?_;refine aV rfl rfl rfl (ba rfl I5 Lq) trivial λb7=>?_;refine aq ?_;refine aH rfl rfl (aF rfl wR rfl rfl rfl) ⟨rfl,rfl,trivial⟩ ?_;refine aq (nt (aj (sr ?_)));refine mq ?_;refine jb (fq rfl) ?_;refine nt (cn h (λh=>?_) (λh=>?_))
  .refine sr (mq ?_);refine cq ?_;refine aq (nt (rx ?_));refine bH (eu (t:=Tl) (x:=([]:(List Int))) 4 rfl .nil rfl rfl) ?_;refine Aj ?_;cases h;exact rb
  .refine sk (sr (aV rfl rfl rfl (ba rfl I5 Lq) trivial λb8=>?_));refine nt (aj (sr (fl gI ?_)));refine fr 5 ?_;refine lo cQ ?_;refine aV rfl rfl rfl (au [.tmp 25] rfl rfl Qw rfl (qG a0.1)) ⟨rfl,trivial⟩ λb9=>?_;refine nt (ak (iD (SE.nil 78 (.int .u8)) ?_));refine dx 7 rfl ?_;refine dx 7 rfl ?_;refine dx 7 rfl ?_;refine dx 7 rfl ?_;refine dx 4 rfl ?_;refine dx 7 rfl ?_;refine dx 7 rfl ?_;refine dx 7 rfl ?_;obtain⟨u,qt,h⟩:=aa h;refine qW (Δ:=[.obj b9 3 (I a0.1),.obj b1 25 (.rep ap a0),.obj b8 92 (.eq (.slice none 0 0)),.sl (.slice none 0 0) 78 (.int .u8) ([]:(List Int)),.obj b7 92 (.rep (.slice (.int .u8)) r3.2.1),.obj z6.1 135 (aR q4 z6.2),.inv z6.2 (bW k q4),.obj b2 3 (I a1)]) (F:=[]) (X:=Value) (J:=λ_=>Pe u.2) (E:=λc=>[.obj b9 3 (I a0.1),.obj b1 25 (.rep ap a0),.obj b8 92 (.eq c),.sl c 78 (.int .u8) u.1,.obj b7 92 (.rep (.slice (.int .u8)) r3.2.1),.obj z6.1 135 (aR q4 z6.2),.inv z6.2 (bW k q4),.obj b2 3 (I a1)]) (r0:=λ_=>.tup .any) rfl rfl MO (λrec hp ha hb hs hpe hN hv l=>?_) (λdl c=>tJ (λhj=>?_) (λhj=>?_))
   .rcases rec with⟨st0,pe0,fn0,tm0,ps0,as0,bd0,df0⟩;dsimp only at hp ha hb hs hpe hN hv;subst hp hs hpe;have vN:Ae tm0 [(2,Pt b1),(3,Pt b2),(7,Pt b7),(9,Pt b8)]:=⟨congrArg A.eq (hv 2 _ rfl).symm,congrArg A.eq (hv 3 _ rfl).symm,congrArg A.eq (hv 7 _ rfl).symm,congrArg A.eq (hv 9 _ rfl).symm,trivial⟩;refine bX.pick (M:=(dN Tryz.prog)) [1,0,2,3,4,5,6,7,8] [1,0,2,3,4,5,6,7,8] (nY (λ(c:Value) (q:(List Int)×Bool)=>[.raw l (.loop (jZ ⟨.ready,none,fn0,tm0, #[27],as0,bd0,df0⟩ (Pe q.2))),.obj b1 25 (.rep ap a0),.obj b8 92 (.eq c),.sl c 78 (.int .u8) q.1,.obj b7 92 (.rep (.slice (.int .u8)) r3.2.1),.obj z6.1 135 (aR q4 z6.2),.inv z6.2 (bW k q4),.obj b2 3 (I a1)]) l (ql (λ(n:(List Int)) (j:Int)=>
    (mR k a0 a1 j).bind λs=>
    f8 s (none) (λO=>(eJ k r3.2.1 O a1).bind λD=>
    if¬(D=true) then((cH (bJ (length n+length [j]))).bind λ_=>
    some (n++[j],true)) else(some (n,true))))) k a0.1 b9 (λc q p r' h=>?_) (.slice none 0 0) (([]:(List Int)),false) u qt) rfl (λ_=>rfl) (λ_=>rfl)
    obtain⟨rq,hq,h2,rfl⟩:=tK h;obtain⟨n,b5⟩:=q;obtain rfl:b5=false:=hq;replace h:=bg h2;obtain⟨j,hpv⟩:∃x,x=p:=⟨_,rfl⟩;subst hpv;refine YT.pick (R':=(λc:Value=>(.eq (.bool rq.2),[.raw l (.loop (jZ ⟨.ready,none,fn0,tm0, #[27],as0,bd0,df0⟩ (Pe (!rq.2)))),.obj b1 25 (.rep ap a0),.obj b8 92 (.eq c),.sl c 78 (.int .u8) rq.1,.obj b7 92 (.rep (.slice (.int .u8)) r3.2.1),.obj z6.1 135 (aR q4 z6.2),.inv z6.2 (bW k q4),.obj b2 3 (I a1)]))) [0,1,2,3,4,5,6,7] [0,1,2,3,4,5,6,7] (Ir ha hb (N:=44) (Γ:=[(2,Pt b1),(3,Pt b2),(7,Pt b7),(9,Pt b8)]) rfl hN (by decide) vN (λS w=>?_)) rfl (λ_=>rfl) (λ_=>rfl);refine ae (aq (nl ?_));refine Am rfl rfl ?_;refine ak (sr (fr 1 ?_));refine lo fC ?_;refine fr 7 ?_;refine lo cQ ?_;refine mq ?_;obtain⟨s,mw,h⟩:=aa h;have e:=vq k a0 a1 j s mw;rcases hr:s with _ |O
    .rw [hr] at h e;replace h:=vy h;refine aM (Δ:=[]) (F:=_) (λ_ _ _=>ag rfl _) rfl rfl (au [.tmp 28,.tmp 29,.tmp 30] rfl rfl Qv rfl e) ⟨rfl,rfl,rfl,trivial⟩ λ_=>?_;cases h
    .rw [hr] at h e;replace h:=vx h;refine aM (Δ:=[]) (F:=_) (λ_ _ _=>ag rfl _) rfl rfl (au [.tmp 28,.tmp 29,.tmp 30] rfl rfl Qv rfl e) ⟨rfl,rfl,rfl,trivial⟩ λQ=>?_;refine aV rfl rfl rfl (ba rfl RG Tt) trivial λzz=>?_;refine aH rfl rfl (aF rfl Jo rfl rfl rfl) ⟨rfl,rfl,trivial⟩ ?_;refine nt (sr (jb (rD [] [.tmp 11,.tmp 3] [] [(Pv zz),(Pv b2)] rfl rfl rfl) ?_));refine aq (nt (sr ?_));refine fr 8 ?_;refine lo wR ?_;refine mq ?_;obtain⟨D,mc,h⟩:=aa h;refine fr 4 ?_;refine fr 2 ?_;refine fr 4 ?_;refine fr 4 ?_;refine aM (Δ:=[_,_,_,_]) (F:=_) (λ_ _ _=>ag rfl _) rfl rfl (aU [.tmp 33,.tmp 34] rfl rfl SI rfl (me k r3.2.1 O Q.1 Q.2 zz a1 b2 D mc)) ⟨rfl,rfl,trivial⟩ λ_=>?_;refine ja (iK rfl) ?_;refine nt (cw h (λh=>?_) (λh=>?_))
     .refine ae (fr 7 ?_);refine lo wR ?_;refine mq ?_;refine ja (bb (t:=(.int .u8)) [(.tmp 38,_)] [j] rfl rfl Jz (.cons rfl .int .nil) rfl rfl) ?_;obtain⟨Un,Y,h⟩:=aa h;refine fr 8 ?_;refine dV rfl rfl rfl (cp rfl rfl Jz (am Y)) ⟨rfl,rfl,trivial⟩ λUk=>?_;refine nh λo22=>?_;refine fr 1 ?_;refine aH rfl rfl (aF rfl wR o22 rfl rfl) ⟨rfl,rfl,trivial⟩ ?_;refine aD (aS (bi 5 rfl ?_));refine bi 10 rfl ?_;refine bi 10 rfl ?_;refine bi 8 rfl ?_;refine bi 5 rfl ?_;refine bi 5 rfl ?_;refine bi 9 rfl ?_;refine bi 10 rfl ?_;cases h;exact o7 Uk 7 rfl
     .refine bq (aS (bi 3 rfl ?_));refine bi 10 rfl ?_;refine bi 10 rfl ?_;refine bi 6 rfl ?_;refine bi 10 rfl ?_;refine bi 10 rfl ?_;refine bi 9 rfl ?_;refine bi 10 rfl ?_;cases h;exact o7 c 7 rfl
   .replace h:=cV (Nq hj) h;refine aS (tn (sr (fr 3 ?_)));refine lo wR ?_;obtain⟨U,gw,h⟩:=aa h;refine fr 4 ?_;refine kb (lz (N:=[(.tmp 41,.eq c),(.func 89,.eq (.func (.func 89) #[] #[]))]) (au [.tmp 41,.func 89] rfl rfl SQ rfl (vt k u.1 U gw)) (λ_ _ _ hv hn=>⟨(lend hn.1 hv),hn.2.1,trivial⟩) (λ_=>⟨rfl,og⟩)) ?_;obtain⟨Ul,Z,h⟩:=aa h;refine ja (au [.tmp 42] rfl rfl Ou rfl (j9 k U Ul Z)) ?_;refine aq ?_;refine cq (nt (aA ?_));refine bi 2 rfl ?_;refine DJ ?_;cases h;exact rb
   .replace h:=eU (Np hj) h;cases h
def nZ(k:Nat):Option Bool:=
 (iC k ([]:(List aQ))).bind λr1=>
 (jg k r1 [0]).bind λr2=>
 (iC k ([]:(List aQ))).bind λr3=>
 (fO k r3).bind λr4=>
 (iC k ([]:(List aQ))).bind λr5=>
 (rO k r5 2).bind λr6=>
 (iC k ([]:(List aQ))).bind λr8=>
 (rP k r8 [0] 3).bind λr9=>
 (iC k ([]:(List aQ))).bind λu=>
 (mj k u 2).bind λc=>
 (iC k ([]:(List aQ))).bind λs=>
 (pR k s 2).bind λe=>
 ((if r2.2=0 then(if r4.2=0 then(if r6.2=0 then(if r9.2=0 then(if c.2.2=0 then(if e.2=0 then(if r6.1=(1,3) then(if c.1=2 then(if c.2.1=2 then((jA k r2.1 [[1,(-1:Int),(-1:Int),(-1:Int)],[2,0,(-1:Int),(-1:Int)],[3,1,(-1:Int),(-1:Int)],[3,2,0,(-1:Int)],[(-1:Int),3,1,0]]).bind λr=>
 if r=true then((jA k r4.1 [[0],[0,1],[1]]).bind λn=>
 if n=true then((iQ k r9.1 [0,1,3]).bind λl=>
 if l=true then((iQ k e.1 [1,2]).bind λj=>
 some j) else(some false)) else(some false)) else(some false)) else(some false)) else(some false)) else(some false)) else(some false)) else(some false)) else(some false)) else(some false)) else(some false)) else(some false)):Option (Bool)).bind λh=>
 some h
theorem sO(k:Nat)(r:Bool)(h:nZ k=some r):
 bX (dN Tryz.prog) 11 [] [] (λ_:Unit=>(bI [.eq (.bool r)],[])):=by
 unfold nZ at h
 replace h:=bg h
 refine bX.of 110 Tryz.func11 rfl Tryz.ntmps11 rfl λS w0=>?_
 refine sr ?_
 refine cq ?_
 refine nt ?_
 refine sr ?_
 obtain⟨r1,Ur,h⟩:=aa h
 have UA:=gQ k ([]:(List aQ)) r1 Ur
 refine ja (bO (N:=[(.const (.slice none 0 0),.eq (.slice none 0 0))]) (au [.const (.slice none 0 0)] rfl rfl ED rfl UA) λ_ _ _ hn=>⟨(aG (t:=(.slice aY)) (x:=([]:(List aQ))) .nil rfl rfl hn.1),trivial⟩) ?_
 refine ja (bb (t:=Ti) [(.const (.int .i64 (0)),_)] [0] rfl rfl dS (.cons rfl .int .nil) rfl rfl) ?_
 obtain⟨r2,Up,h⟩:=aa h
 have Uz:=po k r1 [0] r2 Up
 refine jb (aU [.tmp 15,.tmp 16] rfl rfl QE rfl Uz) ?_
 refine mq ?_
 refine xr ?_
 refine xr ?_
 refine aq ?_
 refine aq ?_
 refine nt ?_
 refine sr ?_
 obtain⟨r3,Uo,h⟩:=aa h
 have Uy:=gQ k ([]:(List aQ)) r3 Uo
 refine ja (bO (N:=[(.const (.slice none 0 0),.eq (.slice none 0 0))]) (au [.const (.slice none 0 0)] rfl rfl ED rfl Uy) λ_ _ _ hn=>⟨(aG (t:=(.slice aY)) (x:=([]:(List aQ))) .nil rfl rfl hn.1),trivial⟩) ?_
 obtain⟨r4,Un,h⟩:=aa h
 have Ux:=lV k r3 r4 Un
 refine ja (aU [.tmp 21] rfl rfl Ov rfl Ux) ?_
 refine mq ?_
 refine xr ?_
 refine xr ?_
 refine aq ?_
 refine aq ?_
 refine nt ?_
 refine sr ?_
 obtain⟨r5,Um,h⟩:=aa h
 have Uw:=gQ k ([]:(List aQ)) r5 Um
 refine ja (bO (N:=[(.const (.slice none 0 0),.eq (.slice none 0 0))]) (au [.const (.slice none 0 0)] rfl rfl ED rfl Uw) λ_ _ _ hn=>⟨(aG (t:=(.slice aY)) (x:=([]:(List aQ))) .nil rfl rfl hn.1),trivial⟩) ?_
 obtain⟨r6,Ul,h⟩:=aa h
 have Uu:=xl k r5 2 r6 Ul
 refine jb (aU [.tmp 26,.const (.int .i64 (2))] rfl rfl S7 rfl Uu) ?_
 refine mq ?_
 refine xr ?_
 refine xr ?_
 refine aV rfl rfl rfl (ba rfl AB QY) trivial λb7=>?_
 refine aH rfl rfl (aF rfl ve rfl rfl rfl) ⟨rfl,rfl,trivial⟩ ?_
 refine aq ?_
 refine nt ?_
 refine sr ?_
 obtain⟨r8,Uk,h⟩:=aa h
 have Ut:=gQ k ([]:(List aQ)) r8 Uk
 refine ja (bO (N:=[(.const (.slice none 0 0),.eq (.slice none 0 0))]) (au [.const (.slice none 0 0)] rfl rfl ED rfl Ut) λ_ _ _ hn=>⟨(aG (t:=(.slice aY)) (x:=([]:(List aQ))) .nil rfl rfl hn.1),trivial⟩) ?_
 refine ja (bb (t:=Ti) [(.const (.int .i64 (0)),_)] [0] rfl rfl dS (.cons rfl .int .nil) rfl rfl) ?_
 obtain⟨r9,zz,h⟩:=aa h
 have Us:=xn k r8 [0] 3 r9 zz
 refine jc (aU [.tmp 31,.tmp 32,.const (.int .i64 (3))] rfl rfl S9 rfl Us) ?_
 refine mq ?_
 refine xr ?_
 refine xr ?_
 refine aq ?_
 refine aq ?_
 refine nt ?_
 refine sr ?_
 obtain⟨u,O,h⟩:=aa h
 have Y:=gQ k ([]:(List aQ)) u O
 refine ja (bO (N:=[(.const (.slice none 0 0),.eq (.slice none 0 0))]) (au [.const (.slice none 0 0)] rfl rfl ED rfl Y) λ_ _ _ hn=>⟨(aG (t:=(.slice aY)) (x:=([]:(List aQ))) .nil rfl rfl hn.1),trivial⟩) ?_
 obtain⟨qt,M,h⟩:=aa h
 have X:=sL k u 2 qt M
 refine jb (aU [.tmp 37,.const (.int .i64 (2))] rfl rfl QC rfl X) ?_
 refine mq ?_
 refine xr ?_
 refine xr ?_
 refine xr ?_
 refine aq ?_
 refine aq ?_
 refine aq ?_
 refine nt ?_
 refine sr ?_
 obtain⟨n,J,h⟩:=aa h
 have U:=gQ k ([]:(List aQ)) n J
 refine ja (bO (N:=[(.const (.slice none 0 0),.eq (.slice none 0 0))]) (au [.const (.slice none 0 0)] rfl rfl ED rfl U) λ_ _ _ hn=>⟨(aG (t:=(.slice aY)) (x:=([]:(List aQ))) .nil rfl rfl hn.1),trivial⟩) ?_
 obtain⟨l,I,h⟩:=aa h
 have Q:=vu k n 2 l I
 refine jb (aU [.tmp 43,.const (.int .i64 (2))] rfl rfl S5 rfl Q) ?_
 refine mq ?_
 refine xr ?_
 refine xr ?_
 refine aq ?_
 refine aq ?_
 refine nt ?_
 refine aJ (Z:=Unit) (α:=Bool) (λe c=>[(0,.eq (.bool c))]) (λe c=>[]) h (λK h=>?_) (λe c h=>?_)
 .
  refine ae (mq ?_);refine jb (gu rfl) ?_;refine mq ?_;refine cF (s:=49) rfl (λhb=>?_) (λhb=>?_)
  .replace h:=eU (sP hb) h;refine gm ?_;refine gb (gu rfl) ?_;refine pt ?_;refine mq ?_;refine cF (s:=53) rfl (λhb=>?_) (λhb=>?_)
   .replace h:=eU (sP hb) h;refine gm ?_;refine gb (gu rfl) ?_;refine pt ?_;refine mq ?_;refine cF (s:=57) rfl (λhb=>?_) (λhb=>?_)
    .replace h:=eU (sP hb) h;refine gm ?_;refine gb (gu rfl) ?_;refine pt ?_;refine mq ?_;refine cF (s:=61) rfl (λhb=>?_) (λhb=>?_)
     .replace h:=eU (sP hb) h;refine gm ?_;refine gb (gu rfl) ?_;refine pt ?_;refine mq ?_;refine cF (s:=65) rfl (λhb=>?_) (λhb=>?_)
      .replace h:=eU (sP hb) h;refine gm ?_;refine gb (gu rfl) ?_;refine pt ?_;refine mq ?_;refine cF (s:=69) rfl (λhb=>?_) (λhb=>?_)
       .replace h:=eU (sP hb) h;refine ox rfl rfl rfl rfl rfl rfl (ay rfl ve (tq) rfl) ⟨rfl,trivial⟩ ?_;refine gb (dX [(0,.const (.int .i64 (1)),_),(1,.const (.int .i64 (3)),_)] rfl GF AB zZ (jD ⟨rfl,rfl,trivial⟩) rfl) ?_;refine eE (eu (t:=bN) (x:=(1,3)) 71 rfl (.agg (.pair .int .int)) trivial rfl) ?_;refine gb (N4 rfl SG rfl) ?_;refine pt ?_;refine mq ?_;refine cF (s:=74) rfl (λhb=>?_) (λhb=>?_)
        .replace h:=eU (sP hb) h;refine gm ?_;refine gb (gu rfl) ?_;refine pt ?_;refine mq ?_;refine cF (s:=78) rfl (λhb=>?_) (λhb=>?_)
         .replace h:=eU (sP hb) h;refine gm ?_;refine gb (gu rfl) ?_;refine pt ?_;refine mq ?_;refine cF (s:=82) rfl (λhb=>?_) (λhb=>?_)
          .replace h:=eU (sP hb) h;refine gm ?_;refine kl rfl rfl rfl rfl rfl rfl (bb (t:=Ti) [(.const (.int .i64 (1)),_),(.const (.int .i64 (-1)),_),(.const (.int .i64 (-1)),_),(.const (.int .i64 (-1)),_)] [1,(-1:Int),(-1:Int),(-1:Int)] rfl rfl dS (.cons rfl .int (.cons rfl .int (.cons rfl .int (.cons rfl .int .nil)))) rfl rfl) ⟨rfl,rfl,rfl,rfl,trivial⟩ ?_;refine kl rfl rfl rfl rfl rfl rfl (bb (t:=Ti) [(.const (.int .i64 (2)),_),(.const (.int .i64 (0)),_),(.const (.int .i64 (-1)),_),(.const (.int .i64 (-1)),_)] [2,0,(-1:Int),(-1:Int)] rfl rfl dS (.cons rfl .int (.cons rfl .int (.cons rfl .int (.cons rfl .int .nil)))) rfl rfl) ⟨rfl,rfl,rfl,rfl,trivial⟩ ?_;refine kl rfl rfl rfl rfl rfl rfl (bb (t:=Ti) [(.const (.int .i64 (3)),_),(.const (.int .i64 (1)),_),(.const (.int .i64 (-1)),_),(.const (.int .i64 (-1)),_)] [3,1,(-1:Int),(-1:Int)] rfl rfl dS (.cons rfl .int (.cons rfl .int (.cons rfl .int (.cons rfl .int .nil)))) rfl rfl) ⟨rfl,rfl,rfl,rfl,trivial⟩ ?_;refine kl rfl rfl rfl rfl rfl rfl (bb (t:=Ti) [(.const (.int .i64 (3)),_),(.const (.int .i64 (2)),_),(.const (.int .i64 (0)),_),(.const (.int .i64 (-1)),_)] [3,2,0,(-1:Int)] rfl rfl dS (.cons rfl .int (.cons rfl .int (.cons rfl .int (.cons rfl .int .nil)))) rfl rfl) ⟨rfl,rfl,rfl,rfl,trivial⟩ ?_;refine kl rfl rfl rfl rfl rfl rfl (bb (t:=Ti) [(.const (.int .i64 (-1)),_),(.const (.int .i64 (3)),_),(.const (.int .i64 (1)),_),(.const (.int .i64 (0)),_)] [(-1:Int),3,1,0] rfl rfl dS (.cons rfl .int (.cons rfl .int (.cons rfl .int (.cons rfl .int .nil)))) rfl rfl) ⟨rfl,rfl,rfl,rfl,trivial⟩ ?_;refine kl rfl rfl rfl rfl rfl rfl (bb (t:=Tl) [(.tmp 84,_),(.tmp 85,_),(.tmp 86,_),(.tmp 87,_),(.tmp 88,_)] [[1,(-1:Int),(-1:Int),(-1:Int)],[2,0,(-1:Int),(-1:Int)],[3,1,(-1:Int),(-1:Int)],[3,2,0,(-1:Int)],[(-1:Int),3,1,0]] rfl rfl pe (.cons rfl .rep (.cons rfl .rep (.cons rfl .rep (.cons rfl .rep (.cons rfl .rep .nil))))) rfl rfl) ⟨rfl,rfl,rfl,rfl,rfl,trivial⟩ ?_;obtain⟨mw,F,h⟩:=aa h;refine gb (au [.tmp 83,.tmp 89] rfl rfl QD rfl (mt k r2.1 [[1,(-1:Int),(-1:Int),(-1:Int)],[2,0,(-1:Int),(-1:Int)],[3,1,(-1:Int),(-1:Int)],[3,2,0,(-1:Int)],[(-1:Int),3,1,0]] mw F)) ?_;refine pt ?_;refine mq ?_;refine cF (s:=92) rfl (λhb=>?_) (λhb=>?_)
           .replace h:=eU (Np hb) h;refine gm ?_;refine ga (bb (t:=Ti) [(.const (.int .i64 (0)),_)] [0] rfl rfl dS (.cons rfl .int .nil) rfl rfl) ?_;refine gb (bb (t:=Ti) [(.const (.int .i64 (0)),_),(.const (.int .i64 (1)),_)] [0,1] rfl rfl dS (.cons rfl .int (.cons rfl .int .nil)) rfl rfl) ?_;refine ga (bb (t:=Ti) [(.const (.int .i64 (1)),_)] [1] rfl rfl dS (.cons rfl .int .nil) rfl rfl) ?_;refine gc (bb (t:=Tl) [(.tmp 94,_),(.tmp 95,_),(.tmp 96,_)] [[0],[0,1],[1]] rfl rfl pe (.cons rfl .rep (.cons rfl .rep (.cons rfl .rep .nil))) rfl rfl) ?_;obtain⟨mc,E,h⟩:=aa h;refine gb (au [.tmp 93,.tmp 97] rfl rfl QD rfl (mt k r4.1 [[0],[0,1],[1]] mc E)) ?_;refine pt ?_;refine mq ?_;refine cF (s:=100) rfl (λhb=>?_) (λhb=>?_)
            .replace h:=eU (Np hb) h;refine gm ?_;refine gc (bb (t:=Ti) [(.const (.int .i64 (0)),_),(.const (.int .i64 (1)),_),(.const (.int .i64 (3)),_)] [0,1,3] rfl rfl dS (.cons rfl .int (.cons rfl .int (.cons rfl .int .nil))) rfl rfl) ?_;obtain⟨gw,D,h⟩:=aa h;refine gb (au [.tmp 101,.tmp 102] rfl rfl Ox rfl (kh k r9.1 [0,1,3] gw D)) ?_;refine pt ?_;refine mq ?_;refine cF (s:=105) rfl (λhb=>?_) (λhb=>?_)
             .replace h:=eU (Np hb) h;refine gm ?_;refine gb (bb (t:=Ti) [(.const (.int .i64 (1)),_),(.const (.int .i64 (2)),_)] [1,2] rfl rfl dS (.cons rfl .int (.cons rfl .int .nil)) rfl rfl) ?_;obtain⟨j,y,h⟩:=aa h;refine gb (au [.tmp 106,.tmp 107] rfl rfl Ox rfl (kh k l.1 [1,2] j y)) ?_;refine pt ?_;refine aq (nl ?_);exact jz ((),j) h []
             .replace h:=cV (Nq hb) h;iterate 3 refine gn ?_
              refine pf ?_;refine aq (nl ?_);exact jz ((),false) h []
            .replace h:=cV (Nq hb) h;iterate 3 refine gn ?_
             refine pf ?_;refine mq ?_;iterate 3 refine gn ?_
             refine pf ?_;refine aq (nl ?_);exact jz ((),false) h []
           .replace h:=cV (Nq hb) h;iterate 6 refine gn ?_
            refine pf ?_;refine mq ?_;iterate 3 refine gn ?_
            refine pf ?_;refine mq ?_;iterate 3 refine gn ?_
            refine pf ?_;refine aq (nl ?_);exact jz ((),false) h []
          .replace h:=cV (sQ hb) h;iterate 8 refine gn ?_
           refine pf ?_;refine mq ?_;iterate 6 refine gn ?_
           refine pf ?_;refine mq ?_;iterate 3 refine gn ?_
           refine pf ?_;refine mq ?_;iterate 3 refine gn ?_
           refine pf ?_;refine aq (nl ?_);exact jz ((),false) h []
         .replace h:=cV (sQ hb) h;iterate 2 refine gn ?_
          refine pf ?_;refine mq ?_;iterate 8 refine gn ?_
          refine pf ?_;refine mq ?_;iterate 6 refine gn ?_
          refine pf ?_;refine mq ?_;iterate 3 refine gn ?_
          refine pf ?_;refine mq ?_;iterate 3 refine gn ?_
          refine pf ?_;refine aq (nl ?_);exact jz ((),false) h []
        .replace h:=cV (sQ hb) h;iterate 2 refine gn ?_
         refine pf ?_;refine mq ?_;iterate 2 refine gn ?_
         refine pf ?_;refine mq ?_;iterate 8 refine gn ?_
         refine pf ?_;refine mq ?_;iterate 6 refine gn ?_
         refine pf ?_;refine mq ?_;iterate 3 refine gn ?_
         refine pf ?_;refine mq ?_;iterate 3 refine gn ?_
         refine pf ?_;refine aq (nl ?_);exact jz ((),false) h []
       .replace h:=cV (sQ hb) h;iterate 3 refine gn ?_
        refine pf ?_;refine mq ?_;iterate 2 refine gn ?_
        refine pf ?_;refine mq ?_;iterate 2 refine gn ?_
        refine pf ?_;refine mq ?_;iterate 8 refine gn ?_
        refine pf ?_;refine mq ?_;iterate 6 refine gn ?_
        refine pf ?_;refine mq ?_;iterate 3 refine gn ?_
        refine pf ?_;refine mq ?_;iterate 3 refine gn ?_
        refine pf ?_;refine aq (nl ?_);exact jz ((),false) h []
      .replace h:=cV (sQ hb) h;iterate 2 refine gn ?_
       refine pf ?_;refine mq ?_;iterate 3 refine gn ?_
       refine pf ?_;refine mq ?_;iterate 2 refine gn ?_
       refine pf ?_;refine mq ?_;iterate 2 refine gn ?_
       refine pf ?_;refine mq ?_;iterate 8 refine gn ?_
       refine pf ?_;refine mq ?_;iterate 6 refine gn ?_
       refine pf ?_;refine mq ?_;iterate 3 refine gn ?_
       refine pf ?_;refine mq ?_;iterate 3 refine gn ?_
       refine pf ?_;refine aq (nl ?_);exact jz ((),false) h []
     .replace h:=cV (sQ hb) h;iterate 2 refine gn ?_
      refine pf ?_;refine mq ?_;iterate 2 refine gn ?_
      refine pf ?_;refine mq ?_;iterate 3 refine gn ?_
      refine pf ?_;refine mq ?_;iterate 2 refine gn ?_
      refine pf ?_;refine mq ?_;iterate 2 refine gn ?_
      refine pf ?_;refine mq ?_;iterate 8 refine gn ?_
      refine pf ?_;refine mq ?_;iterate 6 refine gn ?_
      refine pf ?_;refine mq ?_;iterate 3 refine gn ?_
      refine pf ?_;refine mq ?_;iterate 3 refine gn ?_
      refine pf ?_;refine aq (nl ?_);exact jz ((),false) h []
    .replace h:=cV (sQ hb) h;iterate 2 refine gn ?_
     refine pf ?_;refine mq ?_;iterate 2 refine gn ?_
     refine pf ?_;refine mq ?_;iterate 2 refine gn ?_
     refine pf ?_;refine mq ?_;iterate 3 refine gn ?_
     refine pf ?_;refine mq ?_;iterate 2 refine gn ?_
     refine pf ?_;refine mq ?_;iterate 2 refine gn ?_
     refine pf ?_;refine mq ?_;iterate 8 refine gn ?_
     refine pf ?_;refine mq ?_;iterate 6 refine gn ?_
     refine pf ?_;refine mq ?_;iterate 3 refine gn ?_
     refine pf ?_;refine mq ?_;iterate 3 refine gn ?_
     refine pf ?_;refine aq (nl ?_);exact jz ((),false) h []
   .replace h:=cV (sQ hb) h;iterate 2 refine gn ?_
    refine pf ?_;refine mq ?_;iterate 2 refine gn ?_
    refine pf ?_;refine mq ?_;iterate 2 refine gn ?_
    refine pf ?_;refine mq ?_;iterate 2 refine gn ?_
    refine pf ?_;refine mq ?_;iterate 3 refine gn ?_
    refine pf ?_;refine mq ?_;iterate 2 refine gn ?_
    refine pf ?_;refine mq ?_;iterate 2 refine gn ?_
    refine pf ?_;refine mq ?_;iterate 8 refine gn ?_
    refine pf ?_;refine mq ?_;iterate 6 refine gn ?_
    refine pf ?_;refine mq ?_;iterate 3 refine gn ?_
    refine pf ?_;refine mq ?_;iterate 3 refine gn ?_
    refine pf ?_;refine aq (nl ?_);exact jz ((),false) h []
  .replace h:=cV (sQ hb) h;iterate 2 refine gn ?_
   refine pf ?_;refine mq ?_;iterate 2 refine gn ?_
   refine pf ?_;refine mq ?_;iterate 2 refine gn ?_
   refine pf ?_;refine mq ?_;iterate 2 refine gn ?_
   refine pf ?_;refine mq ?_;iterate 2 refine gn ?_
   refine pf ?_;refine mq ?_;iterate 3 refine gn ?_
   refine pf ?_;refine mq ?_;iterate 2 refine gn ?_
   refine pf ?_;refine mq ?_;iterate 2 refine gn ?_
   refine pf ?_;refine mq ?_;iterate 8 refine gn ?_
   refine pf ?_;refine mq ?_;iterate 6 refine gn ?_
   refine pf ?_;refine mq ?_;iterate 3 refine gn ?_
   refine pf ?_;refine mq ?_;iterate 3 refine gn ?_
   refine pf ?_;refine aq (nl ?_);exact jz ((),false) h []
 .
  refine aA ?_;cases h;exact ra
def fa(k:Nat)(r4:(List Int)×bp):Nat->((List Int)×Int×Int×Int×(List (List Int)))->Option ((List Int)×Int×Int×(List (List Int)))
 |0,_=>none
 |n+1,y7=>
  if y7.2.2.2.1 < (r4.1.length:Int) then((((ec k (y7.1,y7.2.1,y7.2.2.1) 5).bind λc=>
  if c.1=true then(some (c.2.1,c.2.2.1,c.2.2.2,y7.2.2.2.2)) else((ck ((y7.2.2.2.2.length:Int) - 1)).bind λr=>
  (bU k (c.2.1,c.2.2.1,c.2.2.2) r).bind λe=>
  (aP y7.2.2.2.2 e.1).bind λj=>
  (aP r4.1 y7.2.2.2.1).bind λh=>
  (cH (bJ (length j+length [h]))).bind λ_=>
  some (e.2.1,e.2.2.1,e.2.2.2,List.set y7.2.2.2.2 (Int.toNat e.1) (j++[h])))):Option ((List Int)×Int×Int×(List (List Int)))).bind λx9=>
  (ck (y7.2.2.2.1+1)).bind λl=>
  fa k r4 n (x9.1,x9.2.1,x9.2.2.1,l,x9.2.2.2)) else(some (y7.1,y7.2.1,y7.2.2.1,y7.2.2.2.2))
def jJ(k:Nat)(a0:bp)(a1:Int):Option ((List (List Int))×bp):=
 (fy k (a0.1,a0.2.1,a0.2.2) 1 3).bind λr1=>
 (cH (0≤r1.1/\bJ (Int.toNat r1.1))).bind λ_=>
 (gG k (r1.2.1,r1.2.2.1,r1.2.2.2) a1).bind λr4=>
 ((fa k r4 k (r4.2.1,r4.2.2.1,r4.2.2.2,0,List.replicate (Int.toNat r1.1) ([]:(List Int)))):Option ((List Int)×Int×Int×(List (List Int)))).bind λx5=>
 some (x5.2.2.2,(x5.1,x5.2.1,x5.2.2.1))
theorem uj(k:Nat)(a0:bp)(c:Nat)(a1:Int)(r:(List (List Int))×bp)(h:jJ k a0 a1=some r):
 dF Tryz.prog 100 [Pt c,I a1] [.obj c 74 (.agg (.pair (.rep Tl a0.1) (.pair (I a0.2.1) (.eq (.int .u64 a0.2.2)))))] (λ_:Unit=>(bI [.rep (.slice Tl) r.1],[.obj c 74 (.agg (.pair (.rep Tl r.2.1) (.pair (I r.2.2.1) (.eq (.int .u64 r.2.2.2)))))])):=by
 unfold jJ at h
 replace h:=bg h
 refine dF.of 42 Tryz.func100 rfl Tryz.ntmps100 rfl λS w0=>?_
 refine sr ?_
 refine cq ?_
 refine nt ?_
 refine sr ?_
 refine mq ?_
 obtain⟨r1,Ut,h⟩:=aa h
 have Uw:=iR k (a0.1,a0.2.1,a0.2.2) c 1 3 r1 Ut
 refine kc (au [.tmp 9,.const (.int .i64 (1)),.const (.int .i64 (3))] rfl rfl KW rfl Uw) ?_
 obtain⟨u2,U,h⟩:=aa h
 refine aV rfl rfl rfl (N3 (t:=.val) (d:=.slice none 0 0) rfl pe Pj (am U).1 (am U).2) ⟨rfl,rfl,trivial⟩ λv3=>?_
 refine eE (IC (F:=[.obj c 74 (.agg (.pair (.rep Tl r1.2.1) (.pair (I r1.2.2.1) (.eq (.int .u64 r1.2.2.2)))))])) ?_
 refine aq ?_
 refine nt ?_
 refine sr ?_
 iterate 2 refine mq ?_
 obtain⟨r4,Us,h⟩:=aa h
 have Uu:=qJ k (r1.2.1,r1.2.2.1,r1.2.2.2) c a1 r4 Us
 refine kb (au [.tmp 12,.tmp 13] rfl rfl QM rfl Uu) ?_
 refine aq ?_
 refine nt ?_
 refine aJ (Z:=(Value×(Nat->Value))) (α:=(List Int)×Int×Int×(List (List Int))) (λz6 x5=>[(5,.eq z6.1)]) (λz6 x5=>[.obj c 74 (.agg (.pair (.rep Tl x5.1) (.pair (I x5.2.1) (.eq (.int .u64 x5.2.2.1)))))]++xe 28 z6 x5.2.2.2) h (λK h=>?_) (λz6 x5 h=>?_)
 .
  refine sr (cq (nt (ak ?_)));refine aI (Z:=(Value×(Nat->Value))) (α:=(List Int)×Int×Int×Int×(List (List Int))) (λz8 y7=>[(0,Pt c),(5,.eq z8.1),(6,.rep Tl r4.1),(7,I y7.2.2.2.1)]) (λz8 y7=>[.obj c 74 (.agg (.pair (.rep Tl y7.1) (.pair (I y7.2.1) (.eq (.int .u64 y7.2.2.1)))))]++xe 28 z8 y7.2.2.2.2) (fa k r4) k (v3,λ_=>.slice none 0 0) (r4.2.1,r4.2.2.1,r4.2.2.2,0,List.replicate (Int.toNat r1.1) ([]:(List Int))) (λ_=>rfl) h (kH [.obj c 74 (.agg (.pair (.rep Tl r4.2.1) (.pair (I r4.2.2.1) (.eq (.int .u64 r4.2.2.2)))))] (xe 28 (v3,λ_=>.slice none 0 0) (List.replicate (Int.toNat r1.1) ([]:(List Int)))) [0] ⟨rfl,rfl,rfl,rfl,trivial⟩ rfl) (λn z8 y7 h=>?_);unfold fa at h;refine aj (sr ?_);iterate 2 refine mq ?_
  refine ol jk ?_;refine jb (bK rfl) ?_;refine nt (ci h (λh=>?_) (λh=>?_))
  .refine sk (aJ (Z:=(Value×(Nat->Value))) (α:=(List Int)×Int×Int×(List (List Int))) (λy x9=>[(0,Pt c),(5,.eq y.1),(6,.rep Tl r4.1),(7,I y7.2.2.2.1)]) (λy x9=>[.obj c 74 (.agg (.pair (.rep Tl x9.1) (.pair (I x9.2.1) (.eq (.int .u64 x9.2.2.1)))))]++xe 28 y x9.2.2.2) h (λK h=>?_) (λy x9 h=>?_))
   .refine ak (aj (sr (mq ?_)));obtain⟨j,gw,h⟩:=aa h;refine kb (au [.tmp 21,.const (.int .i64 (5))] rfl rfl KY rfl (gU k (y7.1,y7.2.1,y7.2.2.1) c 5 j gw)) ?_;refine nt (cv h (λh=>?_) (λh=>?_))
    .refine gX (cy (dE (an ?_)));exact uP (z8,(j.2.1,j.2.2.1,j.2.2.2,y7.2.2.2.2)) h (kH [.obj c 74 (.agg (.pair (.rep Tl j.2.1) (.pair (I j.2.2.1) (.eq (.int .u64 j.2.2.2)))))] (xe 28 z8 y7.2.2.2.2) [0] ⟨rfl,rfl,rfl,rfl,trivial⟩ rfl)
    .refine sk (sr ?_);iterate 2 refine mq ?_
     refine IK (pre:=[.obj c 74 (.agg (.pair (.rep Tl j.2.1) (.pair (I j.2.2.1) (.eq (.int .u64 j.2.2.2)))))]) rfl rfl rfl rfl rfl s9 ⟨rfl,trivial⟩ ?_;obtain⟨mw,Q,h⟩:=aa h;refine jb (eD rfl Q) ?_;obtain⟨e,Y,h⟩:=aa h;refine kb (au [.tmp 23,.tmp 26] rfl rfl ux rfl (bZ k (j.2.1,j.2.2.1,j.2.2.2) c mw e Y)) ?_;refine aq (nt ?_);obtain⟨x,s,h⟩:=aa h;refine iD (EX (pre:=[.obj c 74 (.agg (.pair (.rep Tl e.2.1) (.pair (I e.2.2.1) (.eq (.int .u64 e.2.2.2)))))]) (CZ s).2) ?_;obtain⟨u,O,h⟩:=aa h;obtain⟨u16,X,h⟩:=aa h;refine IN (Δ:=[.sl (z8.2 (Int.toNat e.1)) 3 Ti x,.sl z8.1 28 .val (nF z8.2 0 y7.2.2.2.2),.obj c 74 (.agg (.pair (.rep Tl e.2.1) (.pair (I e.2.2.1) (.eq (.int .u64 e.2.2.2)))))]) (F:=(nu z8.2 0 y7.2.2.2.2).eraseIdx (Int.toNat e.1)) (Z:=Value) (λi=>[(0,Pt c),(5,.eq z8.1),(6,.rep Tl r4.1),(7,I y7.2.2.2.1)]) (λi=>[.sl z8.1 28 .val (List.set (nF z8.2 0 y7.2.2.2.2) (Int.toNat e.1) i),.sl i 3 Ti (x++[u]),.obj c 74 (.agg (.pair (.rep Tl e.2.1) (.pair (I e.2.2.1) (.eq (.int .u64 e.2.2.2)))))]) (λS w=>?_) (λl=>?_)
     .refine qX ?_;refine bR rfl rfl rfl (bD rfl) ⟨rfl,trivial⟩ ?_;refine bR rfl rfl rfl (bD rfl) ⟨rfl,trivial⟩ ?_;refine bR rfl rfl rfl (bD rfl) ⟨rfl,trivial⟩ ?_;refine bR rfl rfl rfl (bD rfl) ⟨rfl,trivial⟩ ?_;refine hH 1 rfl rfl rfl rfl (cJ (t:=.val) rfl s9 jW (tc s)) ⟨rfl,rfl,trivial⟩ ?_;refine hH 1 rfl rfl rfl rfl (gP (i:=Int.toNat e.1) (off:=0) rfl jW (λ_=>rfl) rfl (dC (tc s)).2.2 rfl) ⟨rfl,trivial⟩ ?_;refine bR rfl rfl rfl (bD rfl) ⟨rfl,trivial⟩ ?_;refine bR rfl rfl rfl (bD rfl) ⟨rfl,trivial⟩ ?_;refine bR rfl rfl rfl (bo (t:=Ti) rfl jk cQ O) ⟨rfl,rfl,trivial⟩ ?_;refine bR rfl rfl rfl (av (t:=Ti) rfl cQ rfl) ⟨rfl,trivial⟩ ?_;refine bR rfl rfl rfl (bb (t:=Ti) [(.tmp 37,_)] [u] rfl rfl dS (.cons rfl .int .nil) rfl rfl) ⟨rfl,trivial⟩ ?_;refine IV 0 rfl (λv=>[.sl v 3 Ti (x++[u])]) (λ_=>rfl) rfl rfl rfl (cp rfl rfl dS (am X)) ⟨rfl,rfl,trivial⟩ ?_;refine uR 12 [true,true,true,true,true,true,true,true,true,true,true,true] [40] [] [] rfl (by kernel_rfl) (by kernel_rfl) (by kernel_rfl) eo (λvs hv hB=>?_);obtain⟨w0,UJ,rfl,Ur⟩:=ax hv;obtain⟨w1,UI,rfl,Up⟩:=ax Ur;obtain⟨w2,UH,rfl,Uo⟩:=ax Up;obtain⟨w3,UG,rfl,Un⟩:=ax Uo;obtain⟨w4,UF,rfl,Um⟩:=ax Un;obtain⟨w5,UE,rfl,Ul⟩:=ax Um;obtain⟨w6,UD,rfl,Uk⟩:=ax Ul;obtain⟨w7,UC,rfl,zz⟩:=ax Uk;obtain⟨w8,UB,rfl,qt⟩:=ax zz;obtain⟨w9,Uz,rfl,J⟩:=ax qt;obtain⟨UA,Uy,rfl,E⟩:=ax J;obtain⟨l,Ux,rfl,D⟩:=ax E;obtain rfl:=qI D;refine⟨[0,1,2],[.sl z8.1 28 .val (nF z8.2 0 y7.2.2.2.2),.obj c 74 (.agg (.pair (.rep Tl e.2.1) (.pair (I e.2.2.1) (.eq (.int .u64 e.2.2.2))))),.sl l 3 Ti (x++[u])],by kernel_rfl,by decide,?_⟩;refine uN rfl rfl rfl rfl (cJ (t:=.val) rfl s9 jW (tc s)) ⟨rfl,rfl,trivial⟩ (by kernel_rfl) ?_;refine qV 2 rfl ?_;refine OS λo18=>?_;refine qV 1 rfl ?_;refine sD rfl rfl (gp (i:=Int.toNat e.1) rfl jW rfl (mX (tc s)) rfl (.val o18) o18) ⟨rfl,rfl,trivial⟩ (by kernel_rfl) ?_;refine yc ?_;refine bH (SE.fin (Γ':=[(0,Pt c),(5,.eq z8.1),(6,.rep Tl r4.1),(7,I y7.2.2.2.1)]) (Δ':=[.sl z8.1 28 .val (List.set (nF z8.2 0 y7.2.2.2.2) (Int.toNat e.1) l),.sl l 3 Ti (x++[u]),.obj c 74 (.agg (.pair (.rep Tl e.2.1) (.pair (I e.2.2.1) (.eq (.int .u64 e.2.2.2)))))]) [0,1,2] ⟨rfl,rfl,rfl,rfl,trivial⟩ rfl) ?_;exact λa w st=>⟨rfl,(l),(SE.fin (Γ':=[(0,Pt c),(5,.eq z8.1),(6,.rep Tl r4.1),(7,I y7.2.2.2.1)]) (Δ':=[.sl z8.1 28 .val (List.set (nF z8.2 0 y7.2.2.2.2) (Int.toNat e.1) l),.sl l 3 Ti (x++[u]),.obj c 74 (.agg (.pair (.rep Tl e.2.1) (.pair (I e.2.2.1) (.eq (.int .u64 e.2.2.2)))))]) [0,1,2] ⟨rfl,rfl,rfl,rfl,trivial⟩ rfl) a w st⟩
     .show JN _ _ [(0,Pt c),(5,.eq z8.1),(6,.rep Tl r4.1),(7,I y7.2.2.2.1)] ([.sl z8.1 28 .val (List.set (nF z8.2 0 y7.2.2.2.2) (Int.toNat e.1) l),.sl l 3 Ti (x++[u]),.obj c 74 (.agg (.pair (.rep Tl e.2.1) (.pair (I e.2.2.1) (.eq (.int .u64 e.2.2.2)))))]++(nu z8.2 0 y7.2.2.2.2).eraseIdx (Int.toNat e.1));refine bi 1 rfl ?_;refine bH (BQ (pre:=[.obj c 74 (.agg (.pair (.rep Tl e.2.1) (.pair (I e.2.2.1) (.eq (.int .u64 e.2.2.2)))))]) (z:=z8) (i:=Int.toNat e.1) (CZ s).2) ?_;refine bn ?_;exact uP ((z8.1,AT z8.2 (Int.toNat e.1) l),(e.2.1,e.2.2.1,e.2.2.2,List.set y7.2.2.2.2 (Int.toNat e.1) (x++[u]))) h (kH [.obj c 74 (.agg (.pair (.rep Tl e.2.1) (.pair (I e.2.2.1) (.eq (.int .u64 e.2.2.2)))))] (xe 28 (z8.1,AT z8.2 (Int.toNat e.1) l) (List.set y7.2.2.2.2 (Int.toNat e.1) (x++[u]))) [0] ⟨rfl,rfl,rfl,rfl,trivial⟩ rfl)
   .refine ae (mq ?_);obtain⟨mc,M,h⟩:=aa h;refine jb (bG rfl M) ?_;refine aq (nl ?_);exact uP (y,(x9.1,x9.2.1,x9.2.2.1,mc,x9.2.2.2)) h (kH [.obj c 74 (.agg (.pair (.rep Tl x9.1) (.pair (I x9.2.1) (.eq (.int .u64 x9.2.2.1)))))] (xe 28 y x9.2.2.2) [0] ⟨rfl,rfl,rfl,rfl,trivial⟩ rfl)
  .refine xa ?_;exact uP (z8,(y7.1,y7.2.1,y7.2.2.1,y7.2.2.2.2)) h (kH [.obj c 74 (.agg (.pair (.rep Tl y7.1) (.pair (I y7.2.1) (.eq (.int .u64 y7.2.2.1)))))] (xe 28 z8 y7.2.2.2.2) [0] ⟨rfl,trivial⟩ rfl)
 .
  refine sr (mq ?_);refine aq (nt (aA ?_));refine bH (ID (pre:=[.obj c 74 (.agg (.pair (.rep Tl x5.1) (.pair (I x5.2.1) (.eq (.int .u64 x5.2.2.1)))))])) ?_;refine bH (jo [4,5,41] ⟨rfl,rfl,rfl,trivial⟩) ?_;cases h;exact aL () [_] 1 ⟨rfl,trivial⟩ rfl
def fe(k:Nat)(r2:Int×bp):Nat->((List Int)×Int×Int×(List (List (List Int)))×Int)->Option ((List (List (List Int)))×(List Int)×Int×Int)
 |0,_=>none
 |n+1,c=>
  if 0 < c.2.2.2.2 then(((((if 0 < (c.2.2.2.1.length:Int) then((ec k (c.1,c.2.1,c.2.2.1) 3).bind λl=>
  some (l.2.1,l.2.2.1,l.2.2.2,l.1)) else(some (c.1,c.2.1,c.2.2.1,false))):Option ((List Int)×Int×Int×Bool)).bind λe=>
  if e.2.2.2=true then((ck ((c.2.2.2.1.length:Int) - 1)).bind λx=>
  (aP c.2.2.2.1 x).bind λu=>
  (f6 k u).bind λr=>
  (cH (bJ (length c.2.2.2.1+length [r]))).bind λ_=>
  some (e.1,e.2.1,e.2.2.1,c.2.2.2.1++[r])) else((jJ k (e.1,e.2.1,e.2.2.1) r2.1).bind λh=>
  (cH (bJ (length c.2.2.2.1+length [h.1]))).bind λ_=>
  some (h.2.1,h.2.2.1,h.2.2.2,c.2.2.2.1++[h.1]))):Option ((List Int)×Int×Int×(List (List (List Int))))).bind λj=>
  (ck (c.2.2.2.2 - 1)).bind λs=>
  fe k r2 n (j.1,j.2.1,j.2.2.1,j.2.2.2,s)) else(some (c.2.2.2.1,c.1,c.2.1,c.2.2.1))
def jK(k:Nat)(a0:bp)(a1:Int)(a2:Int):Option (ab×bp):=
 (fy k (a0.1,a0.2.1,a0.2.2) 1 a1).bind λr2=>
 (bU k (r2.2.1,r2.2.2.1,r2.2.2.2) 3).bind λr3=>
 (gC k (r3.2.1,r3.2.2.1,r3.2.2.2) [0,1,1,2,r3.1]).bind λr4=>
 (bU k (r4.2.1,r4.2.2.1,r4.2.2.2) 3).bind λr5=>
 (gC k (r5.2.1,r5.2.2.1,r5.2.2.2) [0,1,2,r5.1]).bind λr6=>
 (fy k (r6.2.1,r6.2.2.1,r6.2.2.2) 1 3).bind λr7=>
 (gC k (r7.2.1,r7.2.2.1,r7.2.2.2) [1,2,r7.1]).bind λr8=>
 (((fy k (r8.2.1,r8.2.2.1,r8.2.2.2) 1 a2).bind λe=>
 fe k r2 k (e.2.1,e.2.2.1,e.2.2.2,([]:(List (List (List Int)))),e.1)):Option ((List (List (List Int)))×(List Int)×Int×Int)).bind λc=>
 some ((r2.1,r4.1,r6.1,r8.1,c.1,[]),(c.2.1,c.2.2.1,c.2.2.2))
theorem ul(k:Nat)(a0:bp)(c:Nat)(a1:Int)(a2:Int)(r:ab×bp)(h:jK k a0 a1 a2=some r):
 dF Tryz.prog 65 [Pt c,I a1,I a2] [.obj c 74 (.agg (.pair (.rep Tl a0.1) (.pair (I a0.2.1) (.eq (.int .u64 a0.2.2)))))] (λ_:Unit=>(bI [.agg (.pair (I r.1.1) (.pair (I r.1.2.1) (.pair (I r.1.2.2.1) (.pair (I r.1.2.2.2.1) (.pair (.rep (.slice (.slice Tl)) r.1.2.2.2.2.1) (.eq (.slice none 0 0)))))))],[.obj c 74 (.agg (.pair (.rep Tl r.2.1) (.pair (I r.2.2.1) (.eq (.int .u64 r.2.2.2)))))])):=by
 unfold jK at h
 replace h:=bg h
 refine dF.of 67 Tryz.func65 rfl Tryz.ntmps65 rfl λS w0=>?_
 refine sr ?_
 refine aV rfl rfl rfl (ba rfl va Aa) trivial λb1=>?_
 refine nt ?_
 refine sr ?_
 iterate 2 refine mq ?_
 obtain⟨r2,Ux,h⟩:=aa h
 have UE:=iR k (a0.1,a0.2.1,a0.2.2) c 1 a1 r2 Ux
 refine fr 1 ?_
 refine kc (au [.tmp 10,.const (.int .i64 (1)),.tmp 11] rfl rfl KW rfl UE) ?_
 iterate 2 refine mq ?_
 obtain⟨r3,Uw,h⟩:=aa h
 have UD:=bZ k (r2.2.1,r2.2.2.1,r2.2.2.2) c 3 r3 Uw
 refine kb (au [.tmp 14,.const (.int .i64 (3))] rfl rfl ux rfl UD) ?_
 refine cg rfl (bb (t:=Ti) [(.const (.int .i64 (0)),_),(.const (.int .i64 (1)),_),(.const (.int .i64 (1)),_),(.const (.int .i64 (2)),_),(.tmp 15,_)] [0,1,1,2,r3.1] rfl rfl dS (.cons rfl .int (.cons rfl .int (.cons rfl .int (.cons rfl .int (.cons rfl .int .nil))))) rfl rfl) ⟨rfl,rfl,rfl,rfl,rfl,trivial⟩ ?_
 obtain⟨r4,Uu,h⟩:=aa h
 have UC:=lm k (r3.2.1,r3.2.2.1,r3.2.2.2) c [0,1,1,2,r3.1] r4 Uu
 refine kb (au [.tmp 13,.tmp 16] rfl rfl Oq rfl UC) ?_
 iterate 2 refine mq ?_
 obtain⟨r5,Ut,h⟩:=aa h
 have UB:=bZ k (r4.2.1,r4.2.2.1,r4.2.2.2) c 3 r5 Ut
 refine kb (au [.tmp 19,.const (.int .i64 (3))] rfl rfl ux rfl UB) ?_
 refine cg rfl (bb (t:=Ti) [(.const (.int .i64 (0)),_),(.const (.int .i64 (1)),_),(.const (.int .i64 (2)),_),(.tmp 20,_)] [0,1,2,r5.1] rfl rfl dS (.cons rfl .int (.cons rfl .int (.cons rfl .int (.cons rfl .int .nil)))) rfl rfl) ⟨rfl,rfl,rfl,rfl,trivial⟩ ?_
 obtain⟨r6,Us,h⟩:=aa h
 have UA:=lm k (r5.2.1,r5.2.2.1,r5.2.2.2) c [0,1,2,r5.1] r6 Us
 refine kb (au [.tmp 18,.tmp 21] rfl rfl Oq rfl UA) ?_
 iterate 2 refine mq ?_
 obtain⟨r7,Ur,h⟩:=aa h
 have Uz:=iR k (r6.2.1,r6.2.2.1,r6.2.2.2) c 1 3 r7 Ur
 refine kc (au [.tmp 24,.const (.int .i64 (1)),.const (.int .i64 (3))] rfl rfl KW rfl Uz) ?_
 refine jc (bb (t:=Ti) [(.const (.int .i64 (1)),_),(.const (.int .i64 (2)),_),(.tmp 25,_)] [1,2,r7.1] rfl rfl dS (.cons rfl .int (.cons rfl .int (.cons rfl .int .nil))) rfl rfl) ?_
 obtain⟨r8,Up,h⟩:=aa h
 have Uy:=lm k (r7.2.1,r7.2.2.1,r7.2.2.2) c [1,2,r7.1] r8 Up
 refine kb (au [.tmp 23,.tmp 26] rfl rfl Oq rfl Uy) ?_
 refine cg rfl (dX [(0,.tmp 12,_),(1,.tmp 17,_),(2,.tmp 22,_),(3,.tmp 27,_)] rfl PQ va MX (jD ⟨rfl,rfl,rfl,rfl,trivial⟩) rfl) ⟨rfl,rfl,rfl,rfl,trivial⟩ ?_
 refine aV rfl rfl rfl (ba rfl va Aa) trivial λb9=>?_
 refine aH rfl rfl (aF rfl fC trivial rfl rfl) ⟨rfl,rfl,trivial⟩ ?_
 refine nt ?_
 refine aJ (Z:=Value) (α:=(List (List (List Int)))×(List Int)×Int×Int) (λJ y=>[(6,Pt b1),(7,Pt b9)]) (λJ y=>[.obj b1 25 (.agg (.pair (I 0) (.pair (I 0) (.pair (I 0) (.pair (I 0) (.pair (.eq (.slice none 0 0)) (.eq (.slice none 0 0)))))))),.obj b9 25 (.agg (.pair (I r2.1) (.pair (I r4.1) (.pair (I r6.1) (.pair (I r8.1) (.pair (.eq J) (.eq (.slice none 0 0)))))))),.sl J 36 (.slice Tl) y.1,.obj c 74 (.agg (.pair (.rep Tl y.2.1) (.pair (I y.2.2.1) (.eq (.int .u64 y.2.2.2)))))]) h (λK h=>?_) (λJ y h=>?_)
 .
  refine sr ?_;iterate 2 refine mq ?_
  obtain⟨F,zz,h⟩:=aa h;refine fr 1 ?_;refine kc (au [.tmp 29,.const (.int .i64 (1)),.tmp 30] rfl rfl KW rfl (iR k (r8.2.1,r8.2.2.1,r8.2.2.2) c 1 a2 F zz)) ?_;refine aq (nt (ak ?_));refine iD (SE.nil 36 (.slice Tl)) ?_;refine aI (λu e=>[(0,Pt c),(6,Pt b1),(7,Pt b9),(8,I e.2.2.2.2)]) (λu e=>[.obj c 74 (.agg (.pair (.rep Tl e.1) (.pair (I e.2.1) (.eq (.int .u64 e.2.2.1))))),.obj b1 25 (.agg (.pair (I 0) (.pair (I 0) (.pair (I 0) (.pair (I 0) (.pair (.eq (.slice none 0 0)) (.eq (.slice none 0 0)))))))),.obj b9 25 (.agg (.pair (I r2.1) (.pair (I r4.1) (.pair (I r6.1) (.pair (I r8.1) (.pair (.eq u) (.eq (.slice none 0 0)))))))),.sl u 36 (.slice Tl) e.2.2.2.1]) (fe k r2) k (.slice none 0 0) (F.2.1,F.2.2.1,F.2.2.2,([]:(List (List (List Int)))),F.1) (λ_=>rfl) h (SE.fin [1,3,2,0] ⟨rfl,rfl,rfl,rfl,trivial⟩ rfl) (λn u e h=>?_);unfold fe at h;refine aj (sr (mq ?_));refine jb (nS rfl) ?_;refine nt (ci h (λh=>?_) (λh=>?_))
  .refine sk (aJ (Z:=Value) (α:=(List Int)×Int×Int×(List (List (List Int)))) (λD l=>[(0,Pt c),(6,Pt b1),(7,Pt b9),(8,I e.2.2.2.2)]) (λD l=>[.obj c 74 (.agg (.pair (.rep Tl l.1) (.pair (I l.2.1) (.eq (.int .u64 l.2.2.1))))),.obj b1 25 (.agg (.pair (I 0) (.pair (I 0) (.pair (I 0) (.pair (I 0) (.pair (.eq (.slice none 0 0)) (.eq (.slice none 0 0)))))))),.obj b9 25 (.agg (.pair (I r2.1) (.pair (I r4.1) (.pair (I r6.1) (.pair (I r8.1) (.pair (.eq D) (.eq (.slice none 0 0)))))))),.sl D 36 (.slice Tl) l.2.2.2]) h (λK h=>?_) (λD l h=>?_))
   .refine ak (aj (sr (fl dD ?_)));refine fr 2 ?_;refine lo i8 ?_;refine fr 3 ?_;refine ka (mg rfl rfl xY) ?_;refine aq (nt ?_);refine aJ (Z:=Unit) (α:=(List Int)×Int×Int×Bool) (λQ j=>[(0,Pt c),(6,Pt b1),(7,Pt b9),(8,I e.2.2.2.2),(9,I (e.2.2.2.1.length:Int)),(44,.eq (.bool j.2.2.2))]) (λQ j=>[.obj c 74 (.agg (.pair (.rep Tl j.1) (.pair (I j.2.1) (.eq (.int .u64 j.2.2.1))))),.obj b1 25 (.agg (.pair (I 0) (.pair (I 0) (.pair (I 0) (.pair (I 0) (.pair (.eq (.slice none 0 0)) (.eq (.slice none 0 0)))))))),.obj b9 25 (.agg (.pair (I r2.1) (.pair (I r4.1) (.pair (I r6.1) (.pair (I r8.1) (.pair (.eq u) (.eq (.slice none 0 0)))))))),.sl u 36 (.slice Tl) e.2.2.2.1]) h (λK h=>?_) (λQ j h=>?_)
    .refine ae (mq ?_);refine jb (nS rfl) ?_;refine mq ?_;refine cF (s:=41) rfl (λhb=>?_) (λhb=>?_)
     .replace h:=eU (sP hb) h;refine gm ?_;obtain⟨E,qt,h⟩:=aa h;refine fr 2 ?_;refine ox rfl rfl rfl rfl rfl rfl (au [.tmp 42,.const (.int .i64 (3))] rfl rfl KY rfl (gU k (e.1,e.2.1,e.2.2.1) c 3 E qt)) ⟨rfl,rfl,trivial⟩ ?_;refine pt (nl ?_);exact jz ((),(E.2.1,E.2.2.1,E.2.2.2,E.1)) h [0,3,2,1]
     .replace h:=cV (sQ hb) h;iterate 2 refine gn ?_
      refine pf (nl ?_);exact jz ((),(e.1,e.2.1,e.2.2.1,false)) h [2,3,1,0]
    .refine cv h (λh=>?_) (λh=>?_)
     .refine aj (cO ?_);refine da (aC rfl dD) ?_;refine ea 2 (ay rfl i8 nB rfl) ?_;refine da (aC rfl dD) ?_;refine ea 2 (ay rfl i8 nB rfl) ?_;refine dm ?_;obtain⟨Um,X,h⟩:=aa h;refine db (eD rfl X) ?_;obtain⟨Ul,M,h⟩:=aa h;refine eb 3 (cJ (t:=(.slice Tl)) rfl xY vf M) ?_;refine ea 3 (gP (i:=Int.toNat Um) (off:=0) rfl vf (λ_=>rfl) rfl (dC M).2.2 rfl) ?_;obtain⟨O,mw,h⟩:=aa h;refine da (xZ (au [.tmp 52] rfl rfl QB rfl (my k Ul O mw))) ?_;refine da (bb (t:=(.slice Tl)) [(.tmp 53,_)] [O] rfl rfl wT (.cons rfl .rep .nil) rfl rfl) ?_;refine df eo ?_;obtain⟨UG,gw,h⟩:=aa h;refine fr 3 ?_;refine dV rfl rfl rfl (cp rfl rfl wT (am gw)) ⟨rfl,rfl,trivial⟩ λUo=>?_;refine fl dD ?_;refine nh λo25=>?_;refine fr 3 ?_;refine aH rfl rfl (aF rfl i8 o25 rfl rfl) ⟨rfl,rfl,trivial⟩ ?_;refine nt (gX (cy (dE (an ?_))));exact jz (Uo,(j.1,j.2.1,j.2.2.1,e.2.2.2.1++[O])) h [2,3,0,1]
     .refine sk (cO ?_);refine da (aC rfl dD) ?_;refine ea 2 (ay rfl i8 nB rfl) ?_;refine dm ?_;refine da (aC rfl gI) ?_;refine ea 2 (ay rfl cQ nB rfl) ?_;obtain⟨x,mc,h⟩:=aa h;refine LW 0 rfl rfl rfl rfl (au [.tmp 59,.tmp 61] rfl rfl QT rfl (uj k (j.1,j.2.1,j.2.2.1) c r2.1 x mc)) ⟨rfl,rfl,trivial⟩ ?_;refine da (bb (t:=(.slice Tl)) [(.tmp 62,_)] [x.1] rfl rfl wT (.cons rfl .rep .nil) rfl rfl) ?_;refine LY (Δ':=[.obj b1 25 (.agg (.pair (I 0) (.pair (I 0) (.pair (I 0) (.pair (I 0) (.pair (.eq (.slice none 0 0)) (.eq (.slice none 0 0)))))))),.obj b9 25 (.agg (.pair (I r2.1) (.pair (I r4.1) (.pair (I r6.1) (.pair (I r8.1) (.pair (.eq u) (.eq (.slice none 0 0)))))))),.sl u 36 (.slice Tl) e.2.2.2.1,.obj c 74 (.agg (.pair (.rep Tl x.2.1) (.pair (I x.2.2.1) (.eq (.int .u64 x.2.2.2)))))]) (by kernel_rfl) eo (by kernel_rfl) ?_;obtain⟨UF,Y,h⟩:=aa h;refine fr 2 ?_;refine dV rfl rfl rfl (cp rfl rfl wT (am Y)) ⟨rfl,rfl,trivial⟩ λUn=>?_;refine fl dD ?_;refine nh λo29=>?_;refine fr 2 ?_;refine aH rfl rfl (aF rfl i8 o29 rfl rfl) ⟨rfl,rfl,trivial⟩ ?_;refine aD (bn ?_);exact jz (Un,(x.2.1,x.2.2.1,x.2.2.2,e.2.2.2.1++[x.1])) h [3,2,0,1]
   .refine ae (mq ?_);obtain⟨Uk,U,h⟩:=aa h;refine jb (eD rfl U) ?_;refine aq (nl ?_);exact jz (D,(l.1,l.2.1,l.2.2.1,l.2.2.2,Uk)) h [0,1,2,3]
  .refine xa ?_;exact jz (u,(e.2.2.2.1,e.1,e.2.1,e.2.2.1)) h [1,2,3,0]
 .
  refine sr (fr 1 ?_);refine fr 2 ?_;refine eE (jm (off:=4) [] trivial rfl rfl) ?_;refine lo fC ?_;refine fr 1 ?_;refine aH rfl rfl (aF rfl fC trivial rfl rfl) ⟨rfl,rfl,trivial⟩ ?_;refine nt (aA (bH (SE.fin (Γ':=[(6,_)]) [2,0,1] ⟨rfl,trivial⟩ rfl) ?_));cases h;exact aL () [.agg (.pair (I r2.1) (.pair (I r4.1) (.pair (I r6.1) (.pair (I r8.1) (.pair (.rep (.slice (.slice Tl)) y.1) (.eq (.slice none 0 0)))))))] 1 ⟨⟨_,_,_,_,_,rfl,(.tail _ (.head _)),fC,(tq),rfl⟩,trivial⟩ rfl
def iz(k:Nat)(r2:ab×bp)(r5:(List (List Int))×Int):Nat->((List Int)×Int×Int×(List aQ)×Int)->Option ((List aQ)×(List Int)×Int×Int)
 |0,_=>none
 |n+1,c=>
  if 0 < c.2.2.2.2 then((ib k (c.1,c.2.1,c.2.2.1) (r2.1.1,r2.1.2.1,r2.1.2.2.1,r2.1.2.2.2.1,r2.1.2.2.2.2.1,())).bind λe=>
  (aP r5.1 e.1.2.1).bind λl=>
  (aP l e.1.1).bind λh=>
  (cH (bJ (length c.2.2.2.1+length [(e.1.1,e.1.2.1,decide (r2.1.2.2.1≤h))]))).bind λ_=>
  (ck (c.2.2.2.2 - 1)).bind λj=>
  iz k r2 r5 n (e.2.1,e.2.2.1,e.2.2.2,c.2.2.2.1++[(e.1.1,e.1.2.1,decide (r2.1.2.2.1≤h))],j)) else(some (c.2.2.2.1,c.1,c.2.1,c.2.2.1))
def mr(k:Nat)(a0:bp):Option (ab×(List Int)×(List (List Int))×Bool×bp):=
 (jK k (a0.1,a0.2.1,a0.2.2) 4 4).bind λr2=>
 (jL k (r2.2.1,r2.2.2.1,r2.2.2.2) r2.1.1).bind λr4=>
 (jg k (r2.1.1,r2.1.2.1,r2.1.2.2.1,r2.1.2.2.2.1,r2.1.2.2.2.2.1,[]) r4.1).bind λr5=>
 ((if¬(r5.2=0) then(some true) else((mm k (r2.1.1,r2.1.2.1,r2.1.2.2.1,r2.1.2.2.2.1,r2.1.2.2.2.2.1,[]) r5.1).bind λr8=>
 some (!r8))):Option (Bool)).bind λx6=>
 if x6=true then(some ((r2.1.1,r2.1.2.1,r2.1.2.2.1,r2.1.2.2.2.1,r2.1.2.2.2.2.1,[]),([]:(List Int)),([]:(List (List Int))),false,(r4.2.1,r4.2.2.1,r4.2.2.2))) else((((bU k (r4.2.1,r4.2.2.1,r4.2.2.2) 4).bind λc=>
 iz k r2 r5 k (c.2.1,c.2.2.1,c.2.2.2,([]:(List aQ)),c.1)):Option ((List aQ)×(List Int)×Int×Int)).bind λx9=>
 some ((r2.1.1,r2.1.2.1,r2.1.2.2.1,r2.1.2.2.2.1,r2.1.2.2.2.2.1,x9.1),r4.1,r5.1,true,(x9.2.1,x9.2.2.1,x9.2.2.2)))
theorem zr(k:Nat)(a0:bp)(c:Nat)(r:ab×(List Int)×(List (List Int))×Bool×bp)(h:mr k a0=some r):
 bX (dN Tryz.prog) 27 [Pt c] [.obj c 74 (.agg (.pair (.rep Tl a0.1) (.pair (I a0.2.1) (.eq (.int .u64 a0.2.2)))))] (λ_:Unit=>(bI [.rep ap r.1,.rep Tl r.2.1,.rep (.slice Tl) r.2.2.1,.eq (.bool r.2.2.2.1)],[.obj c 74 (.agg (.pair (.rep Tl r.2.2.2.2.1) (.pair (I r.2.2.2.2.2.1) (.eq (.int .u64 r.2.2.2.2.2.2)))))])):=by
 unfold mr at h
 replace h:=bg h
 refine bX.of 64 Tryz.func27 rfl Tryz.ntmps27 rfl λS w0=>?_
 refine sr ?_
 refine aV rfl rfl rfl (ba rfl va Aa) trivial λb1=>?_
 refine cq ?_
 refine cq ?_
 refine cq ?_
 refine nt ?_
 refine sr ?_
 refine mq ?_
 obtain⟨r2,mw,h⟩:=aa h
 have Uk:=ul k (a0.1,a0.2.1,a0.2.2) c 4 4 r2 mw
 refine fr 1 ?_
 refine kc (au [.tmp 12,.const (.int .i64 (4)),.const (.int .i64 (4))] rfl rfl SU rfl Uk) ?_
 refine aV rfl rfl rfl (ba rfl va Aa) trivial λb3=>?_
 refine aH rfl rfl (aF rfl fC trivial rfl rfl) ⟨rfl,rfl,trivial⟩ ?_
 refine nt ?_
 refine sr ?_
 refine mq ?_
 refine fl gI ?_
 refine lo cQ ?_
 obtain⟨r4,mc,h⟩:=aa h
 have zz:=um k (r2.2.1,r2.2.2.1,r2.2.2.2) c r2.1.1 r4 mc
 refine fr 1 ?_
 refine kb (au [.tmp 14,.tmp 16] rfl rfl Tm rfl zz) ?_
 refine aq ?_
 refine nt ?_
 refine sr ?_
 refine fr 1 ?_
 refine lo fC ?_
 refine mq ?_
 obtain⟨r5,gw,h⟩:=aa h
 have qt:=po k (r2.1.1,r2.1.2.1,r2.1.2.2.1,r2.1.2.2.2.1,r2.1.2.2.2.2.1,[]) r4.1 r5 gw
 refine jb (bO (N:=[(.tmp 19,.agg (.pair (I r2.1.1) (.pair (I r2.1.2.1) (.pair (I r2.1.2.2.1) (.pair (I r2.1.2.2.2.1) (.pair (.rep (.slice (.slice Tl)) r2.1.2.2.2.2.1) (.eq (.slice none 0 0)))))))),(.tmp 20,.rep Tl r4.1)]) (aU [.tmp 19,.tmp 20] rfl rfl QE rfl qt) λ_ _ _ hn=>⟨(aG (t:=ap) (x:=(r2.1.1,r2.1.2.1,r2.1.2.2.1,r2.1.2.2.2.1,r2.1.2.2.2.2.1,[])) (.agg (.pair .int (.pair .int (.pair .int (.pair .int (.pair .rep .nil)))))) trivial rfl hn.1),hn.2.1,trivial⟩) ?_
 refine mq ?_
 refine xr ?_
 refine xr ?_
 refine aq ?_
 refine aq ?_
 refine nt ?_
 refine aj ?_
 refine aJ (Z:=Unit) (α:=Bool) (λz7 x6=>[(0,Pt c),(2,Pt b1),(6,Pt b3),(7,.rep Tl r4.1),(8,.rep (.slice Tl) r5.1),(31,.eq (.bool x6))]) (λz7 x6=>[.obj c 74 (.agg (.pair (.rep Tl r4.2.1) (.pair (I r4.2.2.1) (.eq (.int .u64 r4.2.2.2))))),.obj b1 25 (.agg (.pair (I 0) (.pair (I 0) (.pair (I 0) (.pair (I 0) (.pair (.eq (.slice none 0 0)) (.eq (.slice none 0 0)))))))),.obj b3 25 (.agg (.pair (I r2.1.1) (.pair (I r2.1.2.1) (.pair (I r2.1.2.2.1) (.pair (I r2.1.2.2.2.1) (.pair (.rep (.slice (.slice Tl)) r2.1.2.2.2.2.1) (.eq (.slice none 0 0))))))))]) h (λK h=>?_) (λz7 x6 h=>?_)
 .
  refine ae (mq ?_);refine jb (fq rfl) ?_;refine mq ?_;refine cF (s:=26) rfl (λhb=>?_) (λhb=>?_)
  .replace h:=eU (TO hb) h;iterate 4 refine gn ?_
   refine pt (nl ?_);exact jz ((),true) h [1,2,0]
  .replace h:=cV (PZ hb) h;refine ox rfl rfl rfl rfl rfl rfl (ay rfl fC (tq) rfl) ⟨rfl,trivial⟩ ?_;refine gm ?_;obtain⟨r8,Y,h⟩:=aa h;refine gb (bO (N:=[(.tmp 27,.agg (.pair (I r2.1.1) (.pair (I r2.1.2.1) (.pair (I r2.1.2.2.1) (.pair (I r2.1.2.2.2.1) (.pair (.rep (.slice (.slice Tl)) r2.1.2.2.2.2.1) (.eq (.slice none 0 0)))))))),(.tmp 28,.rep (.slice Tl) r5.1)]) (au [.tmp 27,.tmp 28] rfl rfl SS rfl (xq k (r2.1.1,r2.1.2.1,r2.1.2.2.1,r2.1.2.2.2.1,r2.1.2.2.2.2.1,[]) r5.1 r8 Y)) λ_ _ _ hn=>⟨(aG (t:=ap) (x:=(r2.1.1,r2.1.2.1,r2.1.2.2.1,r2.1.2.2.2.1,r2.1.2.2.2.2.1,[])) (.agg (.pair .int (.pair .int (.pair .int (.pair .int (.pair .rep .nil)))))) trivial rfl hn.1),hn.2.1,trivial⟩) ?_;refine ga (iK rfl) ?_;refine pf (nl ?_);exact jz ((), !r8) h [1,2,0]
 .
  refine cv h (λh=>?_) (λh=>?_)
  .refine sr (fr 2 ?_);refine lo fC ?_;refine fr 2 ?_;refine aH rfl rfl (aF rfl fC trivial rfl rfl) ⟨rfl,rfl,trivial⟩ ?_;refine cq ?_;refine cq ?_;refine cq (nt (rx ?_));refine bH (gh (a:=.agg (.pair (I r2.1.1) (.pair (I r2.1.2.1) (.pair (I r2.1.2.2.1) (.pair (I r2.1.2.2.2.1) (.pair (.rep (.slice (.slice Tl)) r2.1.2.2.2.2.1) (.eq (.slice none 0 0)))))))) (a':=.rep ap (r2.1.1,r2.1.2.1,r2.1.2.2.1,r2.1.2.2.2.1,r2.1.2.2.2.2.1,[])) (iY (.agg (.pair .int (.pair .int (.pair .int (.pair .int (.pair .rep .nil)))))))) ?_;refine bH (eu (t:=Tl) (x:=([]:(List Int))) 3 rfl .nil rfl rfl) ?_;refine bH (eu (t:=(.slice Tl)) (x:=([]:(List (List Int)))) 4 rfl .nil rfl rfl) ?_;refine bH (SE.fin (Γ':=[(2,_),(3,_),(4,_),(5,_)]) [2,0,1] ⟨rfl,rfl,rfl,rfl,trivial⟩ rfl) ?_;cases h;exact aL () [.rep ap (r2.1.1,r2.1.2.1,r2.1.2.2.1,r2.1.2.2.2.1,r2.1.2.2.2.2.1,[]),_,_,_] 1 ⟨⟨_,_,_,_,_,rfl,(.tail _ (.head _)),fC,(tq),rfl⟩,rfl,rfl,rfl,trivial⟩ rfl
  .refine sk (aJ (Z:=Value) (α:=(List aQ)×(List Int)×Int×Int) (λy x9=>[(2,Pt b1),(6,Pt b3),(7,.rep Tl r4.1),(8,.rep (.slice Tl) r5.1)]) (λy x9=>[.obj b1 25 (.agg (.pair (I 0) (.pair (I 0) (.pair (I 0) (.pair (I 0) (.pair (.eq (.slice none 0 0)) (.eq (.slice none 0 0)))))))),.obj b3 25 (.agg (.pair (I r2.1.1) (.pair (I r2.1.2.1) (.pair (I r2.1.2.2.1) (.pair (I r2.1.2.2.2.1) (.pair (.rep (.slice (.slice Tl)) r2.1.2.2.2.2.1) (.eq y))))))),.sl y 27 aY x9.1,.obj c 74 (.agg (.pair (.rep Tl x9.2.1) (.pair (I x9.2.2.1) (.eq (.int .u64 x9.2.2.2)))))]) h (λK h=>?_) (λy x9 h=>?_))
   .refine sr (mq ?_);obtain⟨u,Q,h⟩:=aa h;refine kb (au [.tmp 33,.const (.int .i64 (4))] rfl rfl ux rfl (bZ k (r4.2.1,r4.2.2.1,r4.2.2.2) c 4 u Q)) ?_;refine aq (nt (ak ?_));refine iD (SE.nil 27 aY) ?_;refine aI (λl e=>[(0,Pt c),(2,Pt b1),(6,Pt b3),(7,.rep Tl r4.1),(8,.rep (.slice Tl) r5.1),(10,I e.2.2.2.2)]) (λl e=>[.obj c 74 (.agg (.pair (.rep Tl e.1) (.pair (I e.2.1) (.eq (.int .u64 e.2.2.1))))),.obj b1 25 (.agg (.pair (I 0) (.pair (I 0) (.pair (I 0) (.pair (I 0) (.pair (.eq (.slice none 0 0)) (.eq (.slice none 0 0)))))))),.obj b3 25 (.agg (.pair (I r2.1.1) (.pair (I r2.1.2.1) (.pair (I r2.1.2.2.1) (.pair (I r2.1.2.2.2.1) (.pair (.rep (.slice (.slice Tl)) r2.1.2.2.2.2.1) (.eq l))))))),.sl l 27 aY e.2.2.2.1]) (iz k r2 r5) k (.slice none 0 0) (u.2.1,u.2.2.1,u.2.2.2,([]:(List aQ)),u.1) (λ_=>rfl) h (SE.fin [1,2,3,0] ⟨rfl,rfl,rfl,rfl,rfl,rfl,trivial⟩ rfl) (λn l e h=>?_);unfold iz at h;refine aj (sr (mq ?_));refine jb (nS rfl) ?_;refine nt (ci h (λh=>?_) (λh=>?_))
    .refine sk (aj (ak (sr (mq ?_))));refine fr 2 ?_;refine lo fC ?_;obtain⟨j,O,h⟩:=aa h;refine fr 1 ?_;refine kb (bO (N:=[(.tmp 39,Pt c),(.tmp 40,.agg (.pair (I r2.1.1) (.pair (I r2.1.2.1) (.pair (I r2.1.2.2.1) (.pair (I r2.1.2.2.2.1) (.pair (.rep (.slice (.slice Tl)) r2.1.2.2.2.2.1) (.eq l)))))))]) (au [.tmp 39,.tmp 40] rfl rfl SR rfl (rU k (e.1,e.2.1,e.2.2.1) c (r2.1.1,r2.1.2.1,r2.1.2.2.1,r2.1.2.2.2.1,r2.1.2.2.2.2.1,()) j O)) λ_ _ _ hn=>⟨hn.1,(Ls (t:=(.pair Ti (.pair Ti (.pair Ti (.pair Ti (.pair (.slice (.slice Tl)) .ign)))))) (x:=(r2.1.1,r2.1.2.1,r2.1.2.2.1,r2.1.2.2.2.1,r2.1.2.2.2.2.1,())) (oz (iY .int) (oz (iY .int) (oz (iY .int) (oz (iY .int) (oz (iY .rep) LZ))))) hn.2.1),trivial⟩) ?_;refine aV rfl rfl rfl (ba rfl AC Io) trivial λUn=>?_;refine aH rfl rfl (aF rfl rl rfl rfl rfl) ⟨rfl,rfl,trivial⟩ ?_;refine nt (aj (cO ?_));refine dm ?_;refine da (aC rfl Bv) ?_;refine ea 0 (ay rfl cQ nB rfl) ?_;obtain⟨Ul,J,h⟩:=aa h;refine db (bo (t:=Tl) rfl s9 jW J) ?_;refine da (av (t:=Tl) rfl jW rfl) ?_;refine da (aC rfl Bw) ?_;refine ea 0 (ay rfl cQ nB rfl) ?_;obtain⟨D,F,h⟩:=aa h;refine db (bo (t:=Ti) rfl jk cQ F) ?_;refine da (av (t:=Ti) rfl cQ rfl) ?_;refine da (aC rfl xC) ?_;refine ea 2 (ay rfl cQ nB rfl) ?_;refine df eo ?_;refine jb (ko rfl) ?_;refine fl HS ?_;refine aH rfl rfl (aF rfl TN rfl rfl rfl) ⟨rfl,rfl,trivial⟩ ?_;refine nt (ae (fl m9 ?_));refine fr 2 ?_;refine lo wS ?_;refine fr 1 ?_;refine lo rl ?_;refine ja (bb (t:=aY) [(.tmp 57,_)] [(j.1.1,j.1.2.1,decide (r2.1.2.2.1≤D))] rfl rfl yI (.cons trivial (.agg (.pair .rep (.pair .rep .bool))) .nil) rfl rfl) ?_;obtain⟨Um,M,h⟩:=aa h;refine fr 4 ?_;refine dV rfl rfl rfl (cp rfl rfl yI (am M)) ⟨rfl,rfl,trivial⟩ λX=>?_;refine fl m9 ?_;refine nh λo20=>?_;refine fr 2 ?_;refine aH rfl rfl (aF rfl wS o20 rfl rfl) ⟨rfl,rfl,trivial⟩ ?_;refine aD (aS (tn (ae (mq ?_))));obtain⟨U,E,h⟩:=aa h;refine jb (eD rfl E) ?_;refine aq (nl ?_);exact jz (X,(j.2.1,j.2.2.1,j.2.2.2,e.2.2.2.1++[(j.1.1,j.1.2.1,decide (r2.1.2.2.1≤D))],U)) h [3,4,0,1]
    .refine xa ?_;exact jz (l,(e.2.2.2.1,e.1,e.2.1,e.2.2.1)) h [1,2,3,0]
   .refine sr (fr 1 ?_);refine fr 2 ?_;refine eE (jm (off:=5) [] trivial rfl rfl) ?_;refine lo fC ?_;iterate 2 refine mq ?_
    refine fr 1 ?_;refine aH rfl rfl (aF rfl fC trivial rfl rfl) ⟨rfl,rfl,trivial⟩ ?_;refine aq ?_;refine aq ?_;refine cq (nt (aA ?_));refine bH (gh (a:=.agg (.pair (I r2.1.1) (.pair (I r2.1.2.1) (.pair (I r2.1.2.2.1) (.pair (I r2.1.2.2.2.1) (.pair (.rep (.slice (.slice Tl)) r2.1.2.2.2.2.1) (Rs aY x9.1))))))) (a':=.rep ap (r2.1.1,r2.1.2.1,r2.1.2.2.1,r2.1.2.2.2.1,r2.1.2.2.2.2.1,x9.1)) (iY (.agg (.pair .int (.pair .int (.pair .int (.pair .int (.pair .rep .rep)))))))) ?_;refine bH (SE.fin (Γ':=[(2,_),(3,_),(4,_),(5,_)]) [2,0,1] ⟨rfl,rfl,rfl,rfl,trivial⟩ rfl) ?_;cases h;exact aL () [.rep ap (r2.1.1,r2.1.2.1,r2.1.2.2.1,r2.1.2.2.2.1,r2.1.2.2.2.2.1,x9.1),_,_,_] 1 ⟨⟨_,_,_,_,_,rfl,(.tail _ (.head _)),fC,(tq),rfl⟩,rfl,rfl,rfl,trivial⟩ rfl
def cG(k:Nat)(r3:ab×(List Int)×(List (List Int))×Bool×bp)(r8:Int×bp)(h:Int×Int×Int):Nat->(Int×Int)->Option (Except Bool Int)
 |0,_=>none
 |n+1,e=>
  if e.2 < 2 then((ic k r3.1).bind λc=>
  (gB k h.2.2 r8.1 (decide (e.2=1))).bind λl=>
  (cH (bJ (length c.2.2.2.2.2+length [l]))).bind λ_=>
  (fO k (c.1,c.2.1,c.2.2.1,c.2.2.2.1,c.2.2.2.2.1,c.2.2.2.2.2++[l])).bind λj=>
  if¬(j.2=0) then(some (.error false)) else((ck (e.2+1)).bind λr=>
  cG k r3 r8 h n (nz e.1 (j.1.length:Int),r))) else(some (.ok e.1))
def dq(k:Nat)(r3:ab×(List Int)×(List (List Int))×Bool×bp)(r8:Int×bp):Nat->(Int×Int×Int)->Option (Except Bool (Int×Int))
 |0,_=>none
 |n+1,c=>
  if c.2.2 < r3.1.1 then(bE (α:=Int×Int) (bE (α:=Int) (cG k r3 r8 c k (0,0)) (λe=>some (.error e)) λh=>
  if h < c.2.1 then(some (.ok (c.2.2,h))) else(some (.ok (c.1,c.2.1)))) (λe=>some (.error e)) λj=>
  (ck (c.2.2+1)).bind λl=>
  dq k r3 r8 n (j.1,j.2,l)) else(some (.ok (c.1,c.2.1)))
def kD(k:Nat)(a0:(List Int)):Option Bool:=
 (lN k a0).bind λr1=>
 (mr k (r1.1,r1.2.1,r1.2.2)).bind λr3=>
 (fO k r3.1).bind λr5=>
 ((if¬(r3.2.2.2.1=true) then(some true) else(some (!decide (r5.2=0)))):Option (Bool)).bind λx6=>
 if x6=true then(some false) else((bU k (r3.2.2.2.2.1,r3.2.2.2.2.2.1,r3.2.2.2.2.2.2) (r3.1.2.2.2.2.1.length:Int)).bind λr8=>
 bE (α:=Int×Int) (dq k r3 r8 k ((-1:Int),(r5.1.length:Int),0)) (some) λx9=>
 (mj k r3.1 r8.1).bind λc=>
 if x9.1 < 0 then(((if c.2.2=11 then(if c.1=0 then(if c.2.1=0 then((nZ k).bind λl=>
 some l) else(some false)) else(some false)) else(some false)):Option (Bool)).bind λh=>
 some h) else(((if c.2.2=0 then(if c.1=x9.1 then(if c.2.1=x9.2 then((nZ k).bind λj=>
 some j) else(some false)) else(some false)) else(some false)):Option (Bool)).bind λe=>
 some e))
theorem s7(k:Nat)(a0:(List Int))(r:Bool)(h:kD k a0=some r):
 bX (dN Tryz.prog) 5 [.rep Tl a0] [] (λ_:Unit=>(bI [.eq (.bool r)],[])):=by
 unfold kD at h
 replace h:=bg h
 refine bX.of 124 Tryz.func5 rfl Tryz.ntmps5 rfl λS w0=>?_
 refine sr ?_
 refine cq ?_
 refine nt ?_
 refine sr ?_
 refine mq ?_
 obtain⟨r1,Uz,h⟩:=aa h
 have UC:=uk k a0 r1 Uz
 refine aV rfl rfl rfl (au [.tmp 22] rfl rfl Tn rfl UC) ⟨rfl,trivial⟩ λb2=>?_
 refine aq ?_
 refine nt ?_
 refine sr ?_
 refine mq ?_
 obtain⟨r3,Uy,h⟩:=aa h
 have UB:=zr k (r1.1,r1.2.1,r1.2.2) b2 r3 Uy
 refine ka (aU [.tmp 25] rfl rfl Ta rfl UB) ?_
 refine mq ?_
 refine xr ?_
 refine xr ?_
 refine xr ?_
 refine xr ?_
 refine aV rfl rfl rfl (ba rfl va Aa) trivial λb4=>?_
 refine aH rfl rfl (aF rfl fC rfl rfl rfl) ⟨rfl,rfl,trivial⟩ ?_
 refine aq ?_
 refine aq ?_
 refine aq ?_
 refine nt ?_
 refine sr ?_
 refine lo fC ?_
 obtain⟨r5,Ux,h⟩:=aa h
 have UA:=lV k r3.1 r5 Ux
 refine ja (aU [.tmp 32] rfl rfl Ov rfl UA) ?_
 refine mq ?_
 refine xr ?_
 refine xr ?_
 refine aq ?_
 refine aq ?_
 refine nt ?_
 refine aj ?_
 refine aJ (Z:=Unit) (α:=Bool) (λz7 x6=>[(3,Pt b2),(4,Pt b4),(8,.rep (.slice Tl) r5.1),(41,.eq (.bool x6))]) (λz7 x6=>[.obj b2 74 (.agg (.pair (.rep Tl r3.2.2.2.2.1) (.pair (I r3.2.2.2.2.2.1) (.eq (.int .u64 r3.2.2.2.2.2.2))))),.obj b4 25 (.rep ap r3.1)]) h (λK h=>?_) (λz7 x6 h=>?_)
 .
  refine ae (mq ?_);refine ja (iK rfl) ?_;refine mq ?_;refine cF (s:=38) rfl (λhb=>?_) (λhb=>?_)
  .replace h:=eU (yU hb) h;iterate 2 refine gn ?_
   refine pt (nl ?_);exact jz ((),true) h [1,0]
  .replace h:=cV (sH hb) h;refine gm ?_;refine gb (fq rfl) ?_;refine pf (nl ?_);exact jz ((), !decide (r5.2=0)) h [1,0]
 .
  refine cv h (λh=>?_) (λh=>?_)
  .refine sr (cq (nt (rx ?_)));cases h;exact ra
  .refine sk (sr (mq ?_));refine fl dD ?_;refine fr 1 ?_;refine lo i8 ?_;refine ol xY ?_;obtain⟨r8,Uw,h⟩:=aa h;refine fr 1 ?_;refine kb (au [.tmp 42,.tmp 45] rfl rfl ux rfl (bZ k (r3.2.2.2.2.1,r3.2.2.2.2.2.1,r3.2.2.2.2.2.2) b2 (r3.1.2.2.2.2.1.length:Int) r8 Uw)) ?_;refine aq (nt (sr ?_));refine mq ?_;refine ol s9 ?_;refine cq ?_;refine aq (nt ?_);refine dI (Z:=Unit) (α:=Int×Int) (λY x9=>[(4,Pt b4),(10,I r8.1),(11,I x9.1),(12,I x9.2)]) (λY x9=>[.obj b4 25 (.rep ap r3.1)]) (λe=>e=r) h (λe h=>Option.some.inj h) (λK hR h=>?_) (λY x9 h=>?_)
   .refine sr (cq (nt (ak ?_)));refine aI (λX c=>[(4,Pt b4),(10,I r8.1),(11,I c.1),(12,I c.2.1),(13,I c.2.2)]) (λX c=>[.obj b4 25 (.rep ap r3.1)]) (dq k r3 r8) k () ((-1:Int),(r5.1.length:Int),0) (λ_=>rfl) h (SE.fin [1] ⟨rfl,rfl,rfl,rfl,rfl,trivial⟩ rfl) (λn X c h=>?_);unfold dq at h;refine aj (sr (mq ?_));refine fl gI ?_;refine lo cQ ?_;refine jb (bK rfl) ?_;refine nt (ci h (λh=>?_) (λh=>?_))
    .refine sk (dI (Z:=Unit) (α:=Int×Int) (λU u=>[(4,Pt b4),(10,I r8.1),(11,I u.1),(12,I u.2),(13,I c.2.2)]) (λU u=>[.obj b4 25 (.rep ap r3.1)]) (λe=>e=r) h (λe h=>hR e h) (λK hR h=>?_) (λU u h=>?_))
     .refine ak (sr (cq (nt ?_)));refine dI (Z:=Unit) (α:=Int) (λQ D=>[(4,Pt b4),(10,I r8.1),(11,I c.1),(12,I c.2.1),(13,I c.2.2),(14,I D)]) (λQ D=>[.obj b4 25 (.rep ap r3.1)]) (λe=>e=r) h (λe h=>hR e h) (λK hR h=>?_) (λQ D h=>?_)
      .refine sr (cq (nt (ak ?_)));refine aI (λO l=>[(4,Pt b4),(10,I r8.1),(11,I c.1),(12,I c.2.1),(13,I c.2.2),(14,I l.1),(15,I l.2)]) (λO l=>[.obj b4 25 (.rep ap r3.1)]) (cG k r3 r8 c) k () (0,0) (λ_=>rfl) h (SE.fin [0] ⟨rfl,rfl,rfl,rfl,rfl,rfl,rfl,trivial⟩ rfl) (λn O l h=>?_);unfold cG at h;refine aj (sr (mq ?_));refine jb (bK rfl) ?_;refine nt (ci h (λh=>?_) (λh=>?_))
       .refine sk (aj (ak (sr (lo fC ?_))));obtain⟨j,Ur,h⟩:=aa h;refine aV rfl rfl rfl (au [.tmp 59] rfl rfl Tj rfl (rV k r3.1 j Ur)) ⟨rfl,trivial⟩ λUE=>?_;refine aV rfl rfl rfl (ba rfl va Aa) trivial λUG=>?_;refine aH rfl rfl (aF rfl fC trivial rfl rfl) ⟨rfl,rfl,trivial⟩ ?_;refine nt (aj (cO ?_));refine da (aC rfl m9) ?_;refine ea 0 (ay rfl wS nB rfl) ?_;refine dm ?_;refine dm ?_;refine dm ?_;refine db (gu rfl) ?_;obtain⟨y,Up,h⟩:=aa h;refine dc (au [.tmp 63,.tmp 64,.tmp 66] rfl rfl KZ rfl (jy k c.2.2 r8.1 (decide (l.2=1)) y Up)) ?_;refine da (bb (t:=aY) [(.tmp 67,_)] [y] rfl rfl yI (.cons rfl .rep .nil) rfl rfl) ?_;refine df eo ?_;obtain⟨UF,Uk,h⟩:=aa h;refine fr 1 ?_;refine dV rfl rfl rfl (cp rfl rfl yI (am Uk)) ⟨rfl,rfl,trivial⟩ λUD=>?_;refine fl m9 ?_;refine nh λo25=>?_;refine fr 1 ?_;refine aH rfl rfl (aF rfl wS o25 rfl rfl) ⟨rfl,rfl,trivial⟩ ?_;refine nt (sr (fr 1 ?_));refine eE (jm (off:=5) [69] ⟨rfl,trivial⟩ rfl rfl) ?_;refine lo fC ?_;obtain⟨mw,Uo,h⟩:=aa h;refine ja (bO (N:=[(.tmp 72,.agg (.pair (I j.1) (.pair (I j.2.1) (.pair (I j.2.2.1) (.pair (I j.2.2.2.1) (.pair (.rep (.slice (.slice Tl)) j.2.2.2.2.1) (Rs aY (j.2.2.2.2.2++[y]))))))))]) (aU [.tmp 72] rfl rfl Ov rfl (lV k (j.1,j.2.1,j.2.2.1,j.2.2.2.1,j.2.2.2.2.1,j.2.2.2.2.2++[y]) mw Uo)) λ_ _ _ hn=>⟨(aG (t:=ap) (x:=(j.1,j.2.1,j.2.2.1,j.2.2.2.1,j.2.2.2.2.1,j.2.2.2.2.2++[y])) (.agg (.pair .int (.pair .int (.pair .int (.pair .int (.pair .rep .rep)))))) trivial rfl hn.1),trivial⟩) ?_;refine mq ?_;refine xr ?_;refine xr ?_;refine aq ?_;refine aq (nt (aj (sr ?_)));refine mq ?_;refine jb (fq rfl) ?_;refine nt (cn h (λh=>?_) (λh=>?_))
        .refine sr (cq (nt (rx (br (bP (bF (br (bP (bF ?_)))))))));obtain rfl:=hR _ h;exact ra
        .refine sk (ae ?_);iterate 2 refine mq ?_
         refine ol s9 ?_;refine jb (Cm rfl rfl) ?_;refine aq (aD (aS (tn (ae ?_))));refine mq ?_;obtain⟨Ut,zz,h⟩:=aa h;refine jb (bG rfl zz) ?_;refine aq (nl ?_);exact jz ((),(nz l.1 (mw.1.length:Int),Ut)) h [1]
       .refine xa ?_;exact jz ((),l.1) h [0]
      .refine sr ?_;iterate 2 refine mq ?_
       refine jb (bK rfl) ?_;refine nt (ci h (λh=>?_) (λh=>?_))
       .refine ae ?_;iterate 2 refine mq ?_
        refine aq ?_;refine aq (aD (bn ?_));exact jz ((),(c.2.2,D)) h [0]
       .refine bq (bn ?_);exact jz ((),(c.1,c.2.1)) h [0]
     .refine ae (mq ?_);obtain⟨Us,qt,h⟩:=aa h;refine jb (bG rfl qt) ?_;refine aq (nl ?_);exact jz ((),(u.1,u.2,Us)) h [0]
    .refine xa ?_;exact jz ((),(c.1,c.2.1)) h [0]
   .refine sr (lo fC ?_);refine mq ?_;obtain⟨Uu,Un,h⟩:=aa h;refine jb (aU [.tmp 88,.tmp 89] rfl rfl QC rfl (sL k r3.1 r8.1 Uu Un)) ?_;refine mq ?_;refine xr ?_;refine xr ?_;refine xr ?_;refine aq ?_;refine aq ?_;refine aq (nt (aj (sr ?_)));refine mq ?_;refine jb (bK rfl) ?_;refine nt (ci h (λh=>?_) (λh=>?_))
    .refine aJ (Z:=Unit) (α:=Bool) (λM F=>[(2,.eq (.bool F))]) (λM F=>[]) h (λK h=>?_) (λM F h=>?_)
     .refine ae (mq ?_);refine jb (gu rfl) ?_;refine mq ?_;refine cF (s:=98) rfl (λhb=>?_) (λhb=>?_)
      .replace h:=eU (sP hb) h;refine gm ?_;refine gb (gu rfl) ?_;refine pt ?_;refine mq ?_;refine cF (s:=102) rfl (λhb=>?_) (λhb=>?_)
       .replace h:=eU (sP hb) h;refine gm ?_;refine gb (gu rfl) ?_;refine pt ?_;refine mq ?_;refine cF (s:=106) rfl (λhb=>?_) (λhb=>?_)
        .replace h:=eU (sP hb) h;obtain⟨mc,Um,h⟩:=aa h;refine kl rfl rfl rfl rfl rfl rfl (aU [] rfl rfl QN rfl (sO k mc Um)) trivial ?_;refine pt ?_;refine aq (nl ?_);exact jz ((),mc) h []
        .replace h:=cV (sQ hb) h;refine gn ?_;refine pf ?_;refine aq (nl ?_);exact jz ((),false) h []
       .replace h:=cV (sQ hb) h;iterate 2 refine gn ?_
        refine pf ?_;refine mq ?_;refine gn ?_;refine pf ?_;refine aq (nl ?_);exact jz ((),false) h []
      .replace h:=cV (sQ hb) h;iterate 2 refine gn ?_
       refine pf ?_;refine mq ?_;iterate 2 refine gn ?_
       refine pf ?_;refine mq ?_;refine gn ?_;refine pf ?_;refine aq (nl ?_);exact jz ((),false) h []
     .refine rx ?_;cases h;exact ra
    .refine sk (aJ (Z:=Unit) (α:=Bool) (λJ E=>[(2,.eq (.bool E))]) (λJ E=>[]) h (λK h=>?_) (λJ E h=>?_))
     .refine ae (mq ?_);refine jb (gu rfl) ?_;refine mq ?_;refine cF (s:=111) rfl (λhb=>?_) (λhb=>?_)
      .replace h:=eU (sP hb) h;refine gm ?_;refine gm ?_;refine gb (gu rfl) ?_;refine pt ?_;refine mq ?_;refine cF (s:=116) rfl (λhb=>?_) (λhb=>?_)
       .replace h:=eU (sP hb) h;refine gm ?_;refine gm ?_;refine gb (gu rfl) ?_;refine pt ?_;refine mq ?_;refine cF (s:=121) rfl (λhb=>?_) (λhb=>?_)
        .replace h:=eU (sP hb) h;obtain⟨gw,Ul,h⟩:=aa h;refine kl rfl rfl rfl rfl rfl rfl (aU [] rfl rfl QN rfl (sO k gw Ul)) trivial ?_;refine pt ?_;refine aq (nl ?_);exact jz ((),gw) h []
        .replace h:=cV (sQ hb) h;refine gn ?_;refine pf ?_;refine aq (nl ?_);exact jz ((),false) h []
       .replace h:=cV (sQ hb) h;iterate 3 refine gn ?_
        refine pf ?_;refine mq ?_;refine gn ?_;refine pf ?_;refine aq (nl ?_);exact jz ((),false) h []
      .replace h:=cV (sQ hb) h;iterate 3 refine gn ?_
       refine pf ?_;refine mq ?_;iterate 3 refine gn ?_
       refine pf ?_;refine mq ?_;refine gn ?_;refine pf ?_;refine aq (nl ?_);exact jz ((),false) h []
     .refine aA ?_;cases h;exact ra
