import Derived.Test.YthnacobbednnbaaGreatVAB10
open Nat
open List hiding mem_of_getElem?
open Array hiding mem_of_getElem? mk
set_option linter.unusedSimpArgs false
set_option linter.unusedVariables false
set_option maxRecDepth 4000
set_option maxHeartbeats 1000000
namespace Go.Proofs.YthnacobbednnbaaGreat
open K Go Go.Proofs
def eS(k:Nat)(a0:ae)(a1:(List Int)):Nat->(Int×Int)->Option (Except ((Option ae)×Int×Int) Int)
 |0,_=>none
 |n+1,y5=>
  if y5.2 < (a1.length:Int) then((aM a1 y5.2).bind λx7=>
  (ck (a0.1 - 1)).bind λx8=>
  (dD k x7 0 x8).bind λr9=>
  if¬(r9=true) then(some (.error (none,0,3))) else(((if 0 < y5.2 then((ck (y5.2 - 1)).bind λh=>
  (aM a1 h).bind λe=>
  some (decide (x7≤e))) else(some false)):Option (Bool)).bind λj=>
  if j=true then(some (.error (none,0,5))) else((fN k y5.1 x7).bind λl=>
  (ck (y5.2+1)).bind λc=>
  eS k a0 a1 n (l,c)))) else(some (.ok y5.1))
def du(k:Nat)(a0:ae)(h:Int)(e:(List Int)):Nat->Int->Option (Except ((Option ae)×Int×Int) Unit)
 |0,_=>none
 |n+1,c=>
  if c < (e.length:Int) then((aM e c).bind λu=>
  (ck (a0.1 - 1)).bind λs=>
  (ck ((a0.2.2.2.2.1.length:Int) - 1)).bind λr=>
  (aM [s,r,(a0.2.2.2.2.1.length:Int)] h).bind λl=>
  (dD k u 0 l).bind λx=>
  if¬(x=true) then(some (.error (none,0,3))) else((ck (c+1)).bind λj=>
  du k a0 h e n j)) else(some (.ok ()))
def cP(k:Nat)(a0:ae)(a2:(List Int))(a3:(List Int))(a4:(List Int)):Nat->Int->Option (Except ((Option ae)×Int×Int) Unit)
 |0,_=>none
 |n+1,c=>
  if c < ([a2,a3,a4].length:Int) then(bE (α:=Unit) ((aM [a2,a3,a4] c).bind λj=>
  du k a0 c j k 0) (λe=>some (.error e)) λ_=>
  (ck (c+1)).bind λh=>
  cP k a0 a2 a3 a4 n h) else(some (.ok ()))
def jI(k:Nat)(a0:ae)(a1:(List Int))(a2:(List Int))(a3:(List Int))(a4:(List Int)):Option ((Option ae)×Int×Int):=
 (mE k a0).bind λr2=>
 if¬(r2=0) then(some (none,0,r2)) else(bE (α:=Int) (eS k a0 a1 k (0,0)) (some) λx3=>
 bE (α:=Unit) (cP k a0 a2 a3 a4 k 0) (some) λ_=>
 (iO k a0).bind λe=>
 fP e (none) (λc=>(eD k c).bind λh=>
 some (some c,x3,0)))
theorem lP(k:Nat)(a0:ae)(a1:(List Int))(a2:(List Int))(a3:(List Int))(a4:(List Int))(r:(Option ae)×Int×Int)(h:jI k a0 a1 a2 a3 a4=some r):
 bV (dH Tryz.prog) 48 [.rep au a0,.rep Tl a1,.rep Tl a2,.rep Tl a3,.rep Tl a4] [] (λz:Nat×Nat=>(bD [JS r.1 z.1,.eq (.int .u8 r.2.1),I r.2.2],JR r.1 λq=>qs q z.1 z.2 k)):=by
 unfold jI at h
 replace h:=aY h
 refine bV.of 95 Tryz.func48 rfl Tryz.ntmps48 rfl λS w0=>?_
 refine sr ?_
 refine bx λb1=>?_
 refine cq ?_
 refine cq ?_
 refine cq ?_
 refine nt ?_
 refine aj ?_
 refine sr ?_
 refine lo g7 ?_
 obtain⟨r2,UJ,h⟩:=aa h
 have UK:=xz k a0 r2 UJ
 refine ja (av [.tmp 22] rfl rfl Tn rfl UK) ?_
 refine aq ?_
 refine nt ?_
 refine sr ?_
 refine mq ?_
 refine jb (fh rfl) ?_
 refine nt ?_
 refine cn h (λh=>?_) (λh=>?_)
 .
  refine sr (mq ?_);refine cq ?_;refine cq ?_;refine aq (nt (rx ?_));cases h;exact aK (0,0) [.eq (.pointer none),_,_] 0 ⟨rfl,rfl,rfl,trivial⟩ rfl
 .
  refine sk (sr (cq (nt ?_)));refine dB (Z:=Unit) (α:=Int) (λz4 x3=>[(2,.rep Tl a2),(3,.rep Tl a3),(4,.rep Tl a4),(5,Pt b1),(14,.eq (.int .u8 x3))]) (λz4 x3=>[.obj b1 25 (.rep au a0)]) (λe=>e=r) h (λe h=>Option.some.inj h) (λK hR h=>?_) (λz4 x3 h=>?_)
  .refine sr (mq ?_);refine ol iq ?_;refine ff rfl ?_;refine nt (ak (aI (λz6 y5=>[(1,.rep Tl a1),(2,.rep Tl a2),(3,.rep Tl a3),(4,.rep Tl a4),(5,Pt b1),(14,.eq (.int .u8 y5.1)),(27,.rep Tl a1),(28,I (a1.length:Int)),(29,I y5.2)]) (λz6 y5=>[.obj b1 25 (.rep au a0)]) (eS k a0 a1) k () (0,0) (λ_=>rfl) h (SE.fin [0] ⟨rfl,rfl,rfl,rfl,rfl,rfl,rfl,rfl,rfl,trivial⟩ rfl) (λn z6 y5 h=>?_)));unfold eS at h;refine sr (jb (bF rfl) ?_);refine nt (aj (ci h (λh=>?_) (λh=>?_)))
   .refine sk (aj (ak (sr (mq ?_))));obtain⟨x7,UH,h⟩:=aa h;refine jb (aU (t:=Ti) rfl iq cN UH) ?_;refine ja (ap (t:=Ti) rfl cN rfl) ?_;refine aq ?_;refine aq (nt (aj (sr ?_)));refine mq ?_;refine fl gW ?_;refine lo cN ?_;obtain⟨x8,UG,h⟩:=aa h;refine jb (eg rfl UG) ?_;obtain⟨r9,UI,h⟩:=aa h;refine jc (av [.tmp 34,.const (.int .i64 (0)),.tmp 37] rfl rfl xX rfl (dI k x7 0 x8 r9 UI)) ?_;refine ja (iz rfl) ?_;refine nt (cw h (λh=>?_) (λh=>?_))
    .refine sr (cq ?_);refine cq ?_;refine cq (nt (rx (br (bJ (bC ?_)))));obtain rfl:=hR _ h;exact aK (0,0) [.eq (.pointer none),_,_] 0 ⟨rfl,rfl,rfl,trivial⟩ rfl
    .refine sk (aj (aH (Z:=Unit) (α:=Bool) (λO y=>[(1,.rep Tl a1),(2,.rep Tl a2),(3,.rep Tl a3),(4,.rep Tl a4),(5,Pt b1),(14,.eq (.int .u8 y5.1)),(16,I x7),(27,.rep Tl a1),(28,I (a1.length:Int)),(29,I y5.2),(50,.eq (.bool y))]) (λO y=>[.obj b1 25 (.rep au a0)]) h (λK h=>?_) (λO y h=>?_)))
     .refine ab (mq ?_);refine jb (nv rfl) ?_;refine mq ?_;refine cK (s:=42) rfl (λhb=>?_) (λhb=>?_)
      .replace h:=fg (tJ hb) h;refine gm ?_;refine gm ?_;refine gm ?_;obtain⟨UN,Ur,h⟩:=aa h;refine gb (eg rfl Ur) ?_;obtain⟨UC,Up,h⟩:=aa h;refine gb (aU (t:=Ti) rfl iq cN Up) ?_;refine ga (ap (t:=Ti) rfl cN rfl) ?_;refine gb (CO rfl) ?_;refine pt (nl ?_);exact jz ((),decide (x7≤UC)) h [0]
      .replace h:=cY (tK hb) h;iterate 7 refine gn ?_
       refine pf (nl ?_);exact jz ((),false) h [0]
     .refine cv h (λh=>?_) (λh=>?_)
      .refine sr (cq ?_);refine cq ?_;refine cq (nt (rx (br (bJ (bC ?_)))));obtain rfl:=hR _ h;exact aK (0,0) [.eq (.pointer none),_,_] 0 ⟨rfl,rfl,rfl,trivial⟩ rfl
      .refine sk (ab ?_);iterate 2 refine mq ?_
       obtain⟨Y,Uw,h⟩:=aa h;refine jb (av [.tmp 51,.tmp 52] rfl rfl Ou rfl (kh k y5.1 x7 Y Uw)) ?_;refine aq (aE (aQ (tn (ab ?_))));obtain⟨UB,Uo,h⟩:=aa h;refine jb (bB rfl Uo) ?_;refine mq (nl ?_);exact jz ((),(Y,UB)) h [0]
   .refine xa ?_;exact jz ((),y5.1) h [0]
  .refine dB (Z:=Unit) (α:=Unit) (λM U=>[(5,Pt b1),(14,.eq (.int .u8 x3))]) (λM U=>[.obj b1 25 (.rep au a0)]) (λe=>e=r) h (λe h=>Option.some.inj h) (λK hR h=>?_) (λM U h=>?_)
   .refine sr ?_;iterate 3 refine mq ?_
    refine jc (bg (t:=Tl) [(.tmp 55,_),(.tmp 56,_),(.tmp 57,_)] [a2,a3,a4] rfl rfl my (.cons rfl .rep (.cons rfl .rep (.cons rfl .rep .nil))) rfl rfl) ?_;refine ol qp ?_;refine ff rfl ?_;refine nt (ak (aI (λJ c=>[(5,Pt b1),(14,.eq (.int .u8 x3)),(58,.rep (.slice Tl) [a2,a3,a4]),(59,I ([a2,a3,a4].length:Int)),(60,I c)]) (λJ c=>[.obj b1 25 (.rep au a0)]) (cP k a0 a2 a3 a4) k () 0 (λ_=>rfl) h (SE.fin [0] ⟨rfl,rfl,rfl,rfl,rfl,trivial⟩ rfl) (λn J c h=>?_)));unfold cP at h;refine sr (jb (bF rfl) ?_);refine nt (aj (ci h (λh=>?_) (λh=>?_)))
    .refine sk (dB (Z:=Unit) (α:=Unit) (λE Q=>[(5,Pt b1),(14,.eq (.int .u8 x3)),(58,.rep (.slice Tl) [a2,a3,a4]),(59,I ([a2,a3,a4].length:Int)),(60,I c)]) (λE Q=>[.obj b1 25 (.rep au a0)]) (λe=>e=r) h (λe h=>hR e h) (λK hR h=>?_) (λE Q h=>?_))
     .refine ak (sr (mq ?_));obtain⟨x,Un,h⟩:=aa h;refine jb (aU (t:=Tl) rfl qp gi Un) ?_;refine ja (ap (t:=Tl) rfl gi rfl) ?_;refine aq ?_;refine aq (nt (sr ?_));refine mq ?_;refine ol iq ?_;refine ff rfl ?_;refine nt (ak (aI (λD u=>[(5,Pt b1),(14,.eq (.int .u8 x3)),(17,I c),(58,.rep (.slice Tl) [a2,a3,a4]),(59,I ([a2,a3,a4].length:Int)),(60,I c),(65,.rep Tl x),(66,I (x.length:Int)),(67,I u)]) (λD u=>[.obj b1 25 (.rep au a0)]) (du k a0 c x) k () 0 (λ_=>rfl) h (SE.fin [0] ⟨rfl,rfl,rfl,rfl,rfl,rfl,rfl,rfl,rfl,trivial⟩ rfl) (λn D u h=>?_)));unfold du at h;refine sr (jb (bF rfl) ?_);refine nt (aj (ci h (λh=>?_) (λh=>?_)))
      .refine sk (aj (ak (sr ?_)));obtain⟨UA,Um,h⟩:=aa h;refine jb (aU (t:=Ti) rfl iq cN Um) ?_;refine ja (ap (t:=Ti) rfl cN rfl) ?_;refine aq (nt (sr ?_));refine mq ?_;refine fl gW ?_;refine lo cN ?_;obtain⟨UM,zz,h⟩:=aa h;refine jb (eg rfl zz) ?_;refine fl eK ?_;refine lo lG ?_;refine ol AA ?_;obtain⟨UL,qt,h⟩:=aa h;refine jb (eg rfl qt) ?_;refine fl eK ?_;refine lo lG ?_;refine ol AA ?_;refine jc (Eu rfl Q2 cN Po) ?_;refine mq ?_;obtain⟨Uz,mw,h⟩:=aa h;refine jb (nZ (t:=Ti) rfl Q2 cN rfl rfl (λ_=>rfl) mw) ?_;obtain⟨UE,Uu,h⟩:=aa h;refine jc (av [.tmp 71,.const (.int .i64 (0)),.tmp 84] rfl rfl xX rfl (dI k UA 0 Uz UE Uu)) ?_;refine ja (iz rfl) ?_;refine nt (cw h (λh=>?_) (λh=>?_))
       .refine sr (cq ?_);refine cq ?_;refine cq (nt (aA (br (bJ (br (bJ (bC ?_)))))));obtain rfl:=hR _ h;exact aK (0,0) [.eq (.pointer none),_,_] 0 ⟨rfl,rfl,rfl,trivial⟩ rfl
       .refine be (aQ (tn (ab ?_)));obtain⟨Uy,mc,h⟩:=aa h;refine jb (bB rfl mc) ?_;refine mq (nl ?_);exact jz ((),Uy) h [0]
      .refine gQ (cy (cy (dF (bn ?_))));exact jz ((),()) h [0]
     .refine ab ?_;obtain⟨Ux,gw,h⟩:=aa h;refine jb (bB rfl gw) ?_;refine mq (nl ?_);exact jz ((),Ux) h [0]
    .refine xa ?_;exact jz ((),()) h [0]
   .refine sr (lo g7 ?_);obtain⟨X,Ut,h⟩:=aa h;have j:=nA k a0 X Ut;rcases hr:X with _ |UF
    .rw [hr] at h j;replace h:=uP h;refine aJ (Δ:=[]) (F:=_) (λ_ _ _=>ag rfl _) rfl rfl (av [.tmp 89] rfl rfl K1 rfl j) ⟨rfl,trivial⟩ λ_=>?_;cases h
    .rw [hr] at h j;replace h:=uO h;refine aJ (Δ:=[]) (F:=_) (λ_ _ _=>ag rfl _) rfl rfl (av [.tmp 89] rfl rfl K1 rfl j) ⟨rfl,trivial⟩ λl=>?_;refine aq (nt (sr ?_));refine mq ?_;obtain⟨UD,Us,h⟩:=aa h;refine fr 1 ?_;refine fr 1 ?_;refine aJ (Δ:=[_,_]) (F:=_) (λ_ _ _=>ag rfl _) rfl rfl (aR [.tmp 91] rfl rfl SH rfl (pU k UF l.1 l.2 UD Us)) ⟨rfl,trivial⟩ λ_=>?_;refine nt (sr ?_);iterate 2 refine mq ?_
     refine aq ?_;refine aq ?_;refine cq (nt (aA ?_));cases h;exact aK (l.1,l.2) [.eq (.pointer (some ⟨l.1,0,none⟩)),_,_] 2 ⟨rfl,rfl,rfl,trivial⟩ rfl
def eh(k:Nat)(a0:ae)(r5:(List (List Int)))(x9:Int):Nat->((List (List Int))×Int)->Option (List (List Int))
 |0,_=>none
 |n+1,c=>
  if c.2 < x9 then((aM r5 c.2).bind λj=>
  (cJ (0≤a0.1/\a0.1≤5)).bind λ_=>
  (g9 k (List.take (Int.toNat a0.1) j)).bind λe=>
  (cJ (bP (length c.1+length [e]))).bind λ_=>
  (ck (c.2+1)).bind λh=>
  eh k a0 r5 x9 n (c.1++[e],h)) else(some c.1)
def iw(k:Nat)(a0:ae)(a1:(List Int)):Option ((List (List Int))×Int):=
 (jI k a0 a1 ([]:(List Int)) ([]:(List Int)) ([]:(List Int))).bind λr2=>
 fP r2.1 (if¬(r2.2.2=0) then(some (([]:(List (List Int))),r2.2.2)) else(none)) (λq3=>if¬(r2.2.2=0) then(some (([]:(List (List Int))),r2.2.2)) else((lI k q3 r2.2.1).bind λr5=>
 (((ck ((a0.2.2.2.2.1.length:Int)+1)).bind λx9=>
 eh k a0 r5 x9 k (([]:(List (List Int))),0)):Option ((List (List Int)))).bind λx7=>
 some (x7,0)))
theorem pz(k:Nat)(a0:ae)(a1:(List Int))(r:(List (List Int))×Int)(h:iw k a0 a1=some r):
 bV (dH Tryz.prog) 17 [.rep au a0,.rep Tl a1] [] (λ_:Unit=>(bD [.rep (.slice Tl) r.1,I r.2],[])):=by
 unfold iw at h
 replace h:=aY h
 refine bV.of 43 Tryz.func17 rfl Tryz.ntmps17 rfl λS w0=>?_
 refine sr ?_
 refine bx λb1=>?_
 refine cq ?_
 refine cq ?_
 refine nt ?_
 refine sr ?_
 refine lo g7 ?_
 refine mq ?_
 obtain⟨r2,X,h⟩:=aa h
 have j:=lP k a0 a1 ([]:(List Int)) ([]:(List Int)) ([]:(List Int)) r2 X
 rcases hr:r2.1 with _ |q3
 .
  rw [hr] at h j;replace h:=uP h;refine aJ (Δ:=[]) (F:=_) (λ_ _ _=>ag rfl _) rfl rfl (bI (N:=[(.tmp 13,.rep au a0),(.tmp 14,.rep Tl a1),(.const (.slice none 0 0),.eq (.slice none 0 0)),(.const (.slice none 0 0),.eq (.slice none 0 0)),(.const (.slice none 0 0),.eq (.slice none 0 0))]) (aR [.tmp 13,.tmp 14,.const (.slice none 0 0),.const (.slice none 0 0),.const (.slice none 0 0)] rfl rfl zJ rfl j) λ_ _ _ hn=>⟨hn.1,hn.2.1,(aC (t:=Tl) (x:=([]:(List Int))) .nil rfl rfl hn.2.2.1),(aC (t:=Tl) (x:=([]:(List Int))) .nil rfl rfl hn.2.2.2.1),(aC (t:=Tl) (x:=([]:(List Int))) .nil rfl rfl hn.2.2.2.2.1),trivial⟩) ⟨rfl,rfl,rfl,rfl,rfl,trivial⟩ λ_=>?_;refine mq ?_;refine xr ?_;refine xr ?_;refine xr ?_;refine aq ?_;refine aq ?_;refine aq (nt (aj (sr ?_)));refine mq ?_;refine jb (fh rfl) ?_;refine nt (cn h (λh=>?_) (λh=>?_))
  .refine sr (mq ?_);refine cq ?_;refine aq (nt (rx ?_));refine bQ (eE (t:=(.slice Tl)) (x:=([]:(List (List Int)))) 4 rfl .nil rfl rfl) ?_;cases h;exact rb
  .cases h
 .
  rw [hr] at h j;replace h:=uO h;refine aJ (Δ:=[]) (F:=_) (λ_ _ _=>ag rfl _) rfl rfl (bI (N:=[(.tmp 13,.rep au a0),(.tmp 14,.rep Tl a1),(.const (.slice none 0 0),.eq (.slice none 0 0)),(.const (.slice none 0 0),.eq (.slice none 0 0)),(.const (.slice none 0 0),.eq (.slice none 0 0))]) (aR [.tmp 13,.tmp 14,.const (.slice none 0 0),.const (.slice none 0 0),.const (.slice none 0 0)] rfl rfl zJ rfl j) λ_ _ _ hn=>⟨hn.1,hn.2.1,(aC (t:=Tl) (x:=([]:(List Int))) .nil rfl rfl hn.2.2.1),(aC (t:=Tl) (x:=([]:(List Int))) .nil rfl rfl hn.2.2.2.1),(aC (t:=Tl) (x:=([]:(List Int))) .nil rfl rfl hn.2.2.2.2.1),trivial⟩) ⟨rfl,rfl,rfl,rfl,rfl,trivial⟩ λz4=>?_;refine mq ?_;refine xr ?_;refine xr ?_;refine xr ?_;refine aq ?_;refine aq ?_;refine aq (nt (aj (sr ?_)));refine mq ?_;refine jb (fh rfl) ?_;refine nt (cn h (λh=>?_) (λh=>?_))
  .refine sr (mq ?_);refine cq ?_;refine aq (nt (rx ?_));refine bQ (eE (t:=(.slice Tl)) (x:=([]:(List (List Int)))) 4 rfl .nil rfl rfl) ?_;cases h;exact rb
  .refine sk (sr (cq (nt (sr ?_))));iterate 2 refine mq ?_
   obtain⟨r5,U,h⟩:=aa h;refine fr 1 ?_;refine fr 1 ?_;refine aJ (Δ:=[_,_]) (F:=_) (λ_ _ _=>ag rfl _) rfl rfl (aR [.tmp 22,.tmp 23] rfl rfl EJ rfl (o0 k q3 z4.1 z4.2 r2.2.1 r5 U)) ⟨rfl,rfl,trivial⟩ λ_=>?_;refine aX rfl rfl rfl (bi rfl Fz Is) trivial λb6=>?_;refine aP rfl rfl (aN rfl Gi rfl rfl rfl) ⟨rfl,rfl,trivial⟩ ?_;refine eG (jr (t:=(.arr 7 Tr)) (x:=r5) [10] .rep ⟨rfl,trivial⟩) ?_;refine nt (aH (Z:=Value) (α:=(List (List Int))) (λz8 x7=>[(9,.eq z8)]) (λz8 x7=>[.sl z8 28 Tl x7,.inv z4.2 (bX k q3)]) h (λK h=>?_) (λz8 x7 h=>?_))
   .refine sr (fl eK ?_);refine fr 2 ?_;refine lo lG ?_;refine ol AA ?_;obtain⟨x9,Q,h⟩:=aa h;refine jb (bB rfl Q) ?_;refine ff rfl ?_;refine nt (ak (jd (SE.nil 28 Tl) ?_));refine aI (λe c=>[(2,Pt b1),(9,.eq e),(10,.at (.arr 7 Tr) r5),(28,I x9),(29,I c.2)]) (λe c=>[.obj b1 25 (.rep au a0),.sl e 28 Tl c.1,.inv z4.2 (bX k q3)]) (eh k a0 r5 x9) k (.slice none 0 0) (([]:(List (List Int))),0) (λ_=>rfl) h (SE.fin [1,0,3] ⟨rfl,rfl,rfl,rfl,rfl,trivial⟩ rfl) (λn e c h=>?_);unfold eh at h;refine sr (jb (bF rfl) ?_);refine nt (aj (ci h (λh=>?_) (λh=>?_)))
    .refine sk (aj (ak (sr (mq ?_))));refine aq (nt ?_);refine cL ?_;refine dm ?_;refine dm ?_;obtain⟨M,y,h⟩:=aa h;refine db (cg (t:=Tr) rfl I8 i8 y) ?_;refine da (aD rfl gW) ?_;refine ea 0 (ax rfl cN ny rfl) ?_;obtain⟨gw,l,h⟩:=aa h;refine db (vx (t:=Ti) rfl BY cN (am l).1 (am l).2) ?_;obtain⟨s,E,h⟩:=aa h;refine da (DL (av [.tmp 37] rfl rfl SZ rfl (rI k (List.take (Int.toNat a0.1) M) s E))) ?_;refine da (bg (t:=Tl) [(.tmp 38,_)] [s] rfl rfl my (.cons rfl .rep .nil) rfl rfl) ?_;refine df d4 ?_;obtain⟨Y,D,h⟩:=aa h;refine fr 1 ?_;refine dY rfl rfl rfl (cp rfl rfl my (am D)) ⟨rfl,rfl,trivial⟩ λO=>?_;refine aq (aE (aQ (tn (ab ?_))));obtain⟨J,u,h⟩:=aa h;refine jb (bB rfl u) ?_;refine mq (nl ?_);exact jz (O,(c.1++[s],J)) h [1,0,2]
    .refine xa ?_;exact jz (e,c.1) h [1,2]
   .refine sr (mq ?_);refine aq ?_;refine cq (nt (aA ?_));refine bQ (gY [4,9,42] ⟨rfl,rfl,rfl,trivial⟩) ?_;cases h;exact rb
def cu(k:Nat)(a0:ae)(a2:Int)(r1:(List (List Int))):Nat->Int->Option Bool
 |0,_=>none
 |n+1,y3=>
  if y3 < (a0.2.2.2.2.2.length:Int) then((aM a0.2.2.2.2.2 y3).bind λx5=>
  (((eR k a2 y3).bind λr9=>
  if¬(r9=true) then((aM r1 x5.2.1).bind λh=>
  (aM h x5.1).bind λe=>
  some (!decide ((decide (a0.2.2.1≤e))=x5.2.2))) else(some false)):Option (Bool)).bind λx7=>
  if x7=true then(some false) else((ck (y3+1)).bind λc=>
  cu k a0 a2 r1 n c)) else(some true)
def f9(k:Nat)(a0:ae)(a1:Int)(a2:Int):Option Bool:=
 (lI k a0 a1).bind λr1=>
 cu k a0 a2 r1 k 0
theorem oh(k:Nat)(a0:ae)(c z_a0:Nat)(a1:Int)(a2:Int)(r:Bool)(h:f9 k a0 a1 a2=some r):
 Ce (dH Tryz.prog) 119 [Pt c,.eq (.int .u8 a1),.eq (.int .u8 a2)] [.obj c 135 (aS a0 z_a0),.inv z_a0 (bX k a0)] (.iface 168 (.agg #[])) r:=by
 unfold f9 at h
 replace h:=aY h
 refine Ce.of 48 Tryz.func119 rfl Tryz.ntmps119 rfl λS w0=>?_
 refine sr ?_
 iterate 2 refine mq ?_
 obtain⟨r1,E,h⟩:=aa h
 have J:=o0 k a0 c z_a0 a1 r1 E
 refine fr 1 ?_
 refine fr 1 ?_
 refine aJ (Δ:=[_,_]) (F:=_) (λ_ _ _=>ag rfl _) rfl rfl (aR [.tmp 9,.tmp 10] rfl rfl EJ rfl J) ⟨rfl,rfl,trivial⟩ λ_=>?_
 refine aX rfl rfl rfl (bi rfl Fz Is) trivial λb2=>?_
 refine aP rfl rfl (aN rfl Gi rfl rfl rfl) ⟨rfl,rfl,trivial⟩ ?_
 refine eG (jr (t:=(.arr 7 Tr)) (x:=r1) [6] .rep ⟨rfl,trivial⟩) ?_
 refine nt ?_
 refine sr ?_
 refine mq ?_
 refine ja (cM rfl) ?_
 refine fl gK ?_
 refine fl qi ?_
 refine lo AP ?_
 refine ol OQ ?_
 refine ff rfl ?_
 refine nt ?_
 refine ak ?_
 refine aI (λz4 y3=>[(0,Pt c),(2,.eq (.int .u8 a2)),(6,.at (.arr 7 Tr) r1),(16,Rs aZ a0.2.2.2.2.2),(17,I (a0.2.2.2.2.2.length:Int)),(18,I y3)]) (λz4 y3=>[.obj c 135 (aS a0 z_a0),.inv z_a0 (bX k a0)]) (cu k a0 a2 r1) k () 0 (λ_=>rfl) h (SE.fin [0,1] ⟨rfl,rfl,rfl,rfl,rfl,rfl,trivial⟩ rfl) (λn z4 y3 h=>?_)
 unfold cu at h
 refine sr ?_
 refine jb (bF rfl) ?_
 refine nt ?_
 refine aj ?_
 refine ci h (λh=>?_) (λh=>?_)
 .
  refine sk (aj (ak (sr (mq ?_))));obtain⟨x5,y,h⟩:=aa h;refine jb (aU (t:=aZ) rfl OQ qB y) ?_;refine ja (ap (t:=aZ) rfl qB rfl) ?_;refine aX rfl rfl rfl (bi rfl AC It) trivial λb6=>?_;refine aq ?_;refine aP rfl rfl (aN rfl qB rfl rfl rfl) ⟨rfl,rfl,trivial⟩ ?_;refine nt (aH (Z:=Unit) (α:=Bool) (λz8 x7=>[(0,Pt c),(2,.eq (.int .u8 a2)),(6,.at (.arr 7 Tr) r1),(16,Rs aZ a0.2.2.2.2.2),(17,I (a0.2.2.2.2.2.length:Int)),(18,I y3),(44,.eq (.bool x7))]) (λz8 x7=>[.obj c 135 (aS a0 z_a0),.inv z_a0 (bX k a0)]) h (λK h=>?_) (λz8 x7 h=>?_))
  .refine cL ?_;refine dm ?_;refine dm ?_;obtain⟨r9,D,h⟩:=aa h;refine db (av [.tmp 23,.tmp 24] rfl rfl H9 rfl (gx k a2 y3 r9 D)) ?_;refine da (iz rfl) ?_;refine tP rfl rfl rfl (bA rfl) ⟨rfl,trivial⟩ (λhb=>?_) (λhb=>?_)
   .replace h:=fg (A9 hb) h;refine cF rfl rfl rfl rfl rfl (aD rfl BD) ⟨rfl,rfl,trivial⟩ ?_;refine gR 0 rfl rfl rfl rfl rfl rfl (ax rfl cN ny rfl) ⟨rfl,rfl,trivial⟩ ?_;refine cF rfl rfl rfl rfl rfl (aD rfl BE) ⟨rfl,rfl,trivial⟩ ?_;refine gR 0 rfl rfl rfl rfl rfl rfl (ax rfl cN ny rfl) ⟨rfl,rfl,trivial⟩ ?_;obtain⟨M,l,h⟩:=aa h;refine cF rfl rfl rfl rfl rfl (cg (t:=Tr) rfl I8 i8 l) ⟨rfl,rfl,rfl,trivial⟩ ?_;obtain⟨u,j,h⟩:=aa h;refine cF rfl rfl rfl rfl rfl (cg (t:=Ti) rfl BY cN j) ⟨rfl,rfl,rfl,trivial⟩ ?_;refine cF rfl rfl rfl rfl rfl (ap (t:=Ti) rfl cN rfl) ⟨rfl,rfl,trivial⟩ ?_;refine cF rfl rfl rfl rfl rfl (bA rfl) ⟨rfl,rfl,trivial⟩ ?_;refine cF rfl rfl rfl rfl rfl (cM rfl) ⟨rfl,rfl,trivial⟩ ?_;refine cF rfl rfl rfl rfl rfl (aD rfl gK) ⟨rfl,rfl,trivial⟩ ?_;refine cF rfl rfl rfl rfl rfl (aD rfl xQ) ⟨rfl,rfl,trivial⟩ ?_;refine gR 1 rfl rfl rfl rfl rfl rfl (ax rfl cN ny rfl) ⟨rfl,rfl,trivial⟩ ?_;refine cF rfl rfl rfl rfl rfl (kp rfl) ⟨rfl,rfl,rfl,trivial⟩ ?_;refine cF rfl rfl rfl rfl rfl (aD rfl H4) ⟨rfl,rfl,trivial⟩ ?_;refine gR 0 rfl rfl rfl rfl rfl rfl (ax rfl TP ny rfl) ⟨rfl,rfl,trivial⟩ ?_;refine df d4 ?_;refine gb (G2 rfl U4) ?_;refine pt (nl ?_);exact jz ((), !decide ((decide (a0.2.2.1≤u))=x5.2.2)) h [1,2]
   .replace h:=cY (ui hb) h;iterate 15 refine dg ?_
    refine df d4 ?_;refine gn ?_;refine pf (nl ?_);exact jz ((),false) h [1,2]
  .refine cv h (λh=>?_) (λh=>?_)
   .refine ab (cf rfl (G7 rfl OR Pn) trivial ?_);refine ja (G4 rfl OR) ?_;refine Fb rfl rfl rfl rfl ?_;refine Ak ?_;refine sT ?_;refine sT ?_;refine Ak ?_;refine bQ (SE.fin (Γ':=[]) [0,1] trivial rfl) ?_;cases h;exact LP
   .refine be (aQ (tn (ab ?_)));obtain⟨s,e,h⟩:=aa h;refine jb (bB rfl e) ?_;refine mq (nl ?_);exact jz ((),s) h [0,1]
 .
  refine gQ (cy (cy (dF (jX ?_))));refine bQ (SE.fin (Γ':=[]) [0,1] trivial rfl) ?_;cases h;exact aK () [] 2 trivial rfl
def cZ(k:Nat)(a0:ae)(a1:Int)(a2:Int):Option Bool:=f9 k a0 a1 a2
theorem MC:OS Tryz.prog 168 (.agg #[]):=⟨⟨_,OR⟩,λw=>by kernel_rfl⟩
theorem Ic:∀(S:FS) (w:World),(A.rep (.arr 0 Ti) []).holds S w (.agg #[]):=λ_ _=>⟨[],⟨rfl,rfl⟩,rfl⟩
theorem L0:∀w,(zeroValue 168).run Tryz.prog w= .ok (.agg #[]) w:=λw=>by kernel_rfl
theorem M4:∀S w,(A.cells S w (.rep (.arr 0 Ti) []) (Value.cells (.agg #[])).toList):=λ_ _=>⟨rfl,rfl⟩
theorem MD:ec Tryz.prog 168 0 true:=⟨λw=>by kernel_rfl,λw=>by kernel_rfl⟩
theorem QN:ah Tryz.prog 118:=ah.of Tryz.func118 (by kernel_rfl) (by kernel_rfl)
theorem MM:ah Tryz.prog 119:=ah.of Tryz.func119 (by kernel_rfl) (by kernel_rfl)
theorem Ju:ec Tryz.prog 4 1 false:=⟨λw=>by kernel_rfl,λw=>by kernel_rfl⟩
theorem RH:∀w,(zeroValue 4).run Tryz.prog w= .ok (.bool false) w:=λw=>by kernel_rfl
theorem Tz:∀S w,(A.cells S w (.eq (.bool false)) (Value.cells (.bool false)).toList):=λ_ _=>⟨rfl,rfl⟩
theorem zS:yp Tryz.prog 118 (.iface 168 (.agg #[])) 4 (.bool false):=by
 refine⟨QN,λM e0=>?_,λM e0=>?_⟩
 .refine lE.of (M:=M) (m:=.returning) (m1:=.returning) (val:=.nilIface) Tryz.func118 rfl rfl (by decide) rfl rfl (by decide) (λρ=>rfl) (λfr b cs hb hm=>GI hb hm rfl) (.inl rfl) λb S w0=>?_;refine ja (JW Ic rfl MC) ?_;refine mq ?_;refine xr ?_;refine xr ?_;refine aX rfl rfl rfl (bi rfl L0 M4) trivial λb1=>?_;refine aP rfl rfl (aN rfl MD rfl rfl rfl) ⟨rfl,rfl,trivial⟩ ?_;refine aq (nt (sr ?_));refine mq (nt ?_);refine i7 rfl (λhb=>by cases hb) (λhb=>?_);refine be (jX ?_);refine bQ (SE.fin (Γ':=[]) [1] trivial rfl) ?_;exact aK () [] 1 trivial rfl
 .refine lE.of (M:=M) (m:=.panicking (gX (.iface 168 (.agg #[])) false)) (m1:=.panicking (gX (.iface 168 (.agg #[])) true)) (val:=.iface 168 (.agg #[])) Tryz.func118 rfl rfl (by decide) rfl rfl (by decide) (λρ=>rfl) (λfr b cs hb hm=>GH hb hm) (.inr ⟨_,rfl⟩) λb S w0=>?_;refine ja (JV Ic rfl MC) ?_;refine mq ?_;refine xr ?_;refine xr ?_;refine aX rfl rfl rfl (bi rfl L0 M4) trivial λb1=>?_;refine aP rfl rfl (aN rfl MD rfl rfl rfl) ⟨rfl,rfl,trivial⟩ ?_;refine aq (nt (sr ?_));refine mq (nt ?_);refine i7 rfl (λhb=>?_) (λhb=>by cases hb);refine ab (fr 1 ?_);refine aP rfl rfl (aN rfl Ju rfl rfl rfl) ⟨rfl,rfl,trivial⟩ ?_;refine aE (jX ?_);refine bQ (SE.fin (Γ':=[]) [0] trivial rfl) ?_;exact aK () [] 1 trivial rfl
theorem nH(k:Nat)(a0:ae)(c z_a0:Nat)(a1:Int)(a2:Int)(r:Bool)(h:cZ k a0 a1 a2=some r):
 bV (dH Tryz.prog) 101 [Pt c,.eq (.int .u8 a1),.eq (.int .u8 a2)] (qs a0 c z_a0 k) (λ_:Unit=>(bD [.eq (.bool r)],qs a0 c z_a0 k)):=by
 have cr:=oh k a0 c z_a0 a1 a2 r h
 refine Ao 12 Tryz.func101 rfl Tryz.ntmps101 rfl λS w0=>?_
 refine sr ?_
 refine aX rfl rfl rfl (bi rfl RH Tz) trivial λb6=>?_
 refine nt ?_
 refine sr ?_
 refine ja (pN [] [.tmp 6] [] [(Pv b6)] rfl rfl rfl) ?_
 refine IQ rfl rfl rfl rfl rfl ?_
 refine nt ?_
 refine sr ?_
 iterate 3 refine mq ?_
 refine fr 2 ?_
 refine fr 2 ?_
 cases r with
 |false=>
  refine IR (Ss:=[Pt c,.eq (.int .u8 a1),.eq (.int .u8 a2)]) (Δ:=qs a0 c z_a0 k) (F:=[.obj b6 4 (.eq (.bool false))]) [.tmp 8,.tmp 9,.tmp 10] rfl rfl rfl rfl MM ⟨rfl,rfl,rfl,trivial⟩ cr ?_;refine sT ?_;refine bQ (SE.fin (Γ':=[(6,_)]) [2,0,1] ⟨rfl,trivial⟩ rfl) ?_;refine Fe zS ?_;refine bQ (SE.fin (Γ':=[(6,_)]) [1,2,0] ⟨rfl,trivial⟩ rfl) ?_;exact aK () [.eq (.bool false)] 2 ⟨⟨_,_,_,_,_,rfl,(.tail _ (.tail _ (.head _))),Ju,(λ_=>rfl),rfl⟩,trivial⟩ rfl
 |true=>
  refine aJ (Δ:=qs a0 c z_a0 k) (F:=[.obj b6 4 (.eq (.bool false))]) (λ_ _ _=>ag rfl _) rfl rfl (aR [.tmp 8,.tmp 9,.tmp 10] rfl rfl MM rfl cr.ok) ⟨rfl,rfl,rfl,trivial⟩ λ_=>?_;refine nt (sr (fr 2 ?_));refine aP rfl rfl (aN rfl Ju rfl rfl rfl) ⟨rfl,rfl,trivial⟩ ?_;refine nt (aA (LO zS ?_));refine bQ (SE.fin (Γ':=[(6,_)]) [1,2,0] ⟨rfl,trivial⟩ rfl) ?_;exact aK () [.eq (.bool true)] 2 ⟨⟨_,_,_,_,_,rfl,(.tail _ (.tail _ (.head _))),Ju,(λ_=>rfl),rfl⟩,trivial⟩ rfl
def eA(k:Nat)(a0:ae)(a1:Int):Option (List Int):=
 (jK k (qC (λ(y5:(List Int)) (p7:Int)=>
  (cZ k a0 p7 a1).bind λr9=>
  if r9=true then((cJ (bP (length y5+length [p7]))).bind λ_=>
  some (y5++[p7],true)) else(some (y5,true)))) a0.1 (([]:(List Int)),false)).bind λr8=>
 if r8.2=true then(none) else(some r8.1)
theorem ku(k:Nat)(a0:ae)(c z_a0:Nat)(a1:Int)(r:(List Int))(h:eA k a0 a1=some r):
 bV (dH Tryz.prog) 68 [Pt c,.eq (.int .u8 a1)] [.obj c 135 (aS a0 z_a0),.inv z_a0 (bX k a0)] (λ_:Unit=>(bD [.rep (.slice (.int .u8)) r],[.obj c 135 (aS a0 z_a0),.inv z_a0 (bX k a0)])):=by
 unfold eA at h
 replace h:=aY h
 refine vf 23 Tryz.func68 rfl Tryz.ntmps68 rfl λS w0=>?_
 refine sr ?_
 refine bx λb1=>?_
 refine bx λb2=>?_
 refine cq ?_
 refine nt ?_
 refine sr ?_
 refine aX rfl rfl rfl (bi rfl Ja Ls) trivial λb3=>?_
 refine nt ?_
 refine aj ?_
 refine sr ?_
 refine fr 2 ?_
 refine lo Jt ?_
 refine ja (cM rfl) ?_
 refine fl gK ?_
 refine fl gW ?_
 refine fr 3 ?_
 refine lo cN ?_
 refine aX rfl rfl rfl (av [.tmp 11] rfl rfl Qx rfl (qS a0.1)) ⟨rfl,trivial⟩ λb4=>?_
 refine nt ?_
 refine ak ?_
 refine jd (SE.nil 78 (.int .u8)) ?_
 refine dQ 6 rfl ?_
 refine dQ 6 rfl ?_
 refine dQ 2 rfl ?_
 refine dQ 6 rfl ?_
 refine dQ 6 rfl ?_
 refine dQ 6 rfl ?_
 refine dQ 6 rfl ?_
 obtain⟨r8,s,h⟩:=aa h
 refine rA (Δ:=[.obj b4 3 (I a0.1),.obj c 135 (aS a0 z_a0),.obj b1 77 (Pt c),.obj b3 92 (.eq (.slice none 0 0)),.sl (.slice none 0 0) 78 (.int .u8) ([]:(List Int)),.obj b2 78 (.eq (.int .u8 a1)),.inv z_a0 (bX k a0)]) (F:=[]) (X:=Value) (J:=λ_=>Pj r8.2) (E:=λz6=>[.obj b4 3 (I a0.1),.obj c 135 (aS a0 z_a0),.obj b1 77 (Pt c),.obj b3 92 (.eq z6),.sl z6 78 (.int .u8) r8.1,.obj b2 78 (.eq (.int .u8 a1)),.inv z_a0 (bX k a0)]) (r0:=λ_=>.tup .any) rfl rfl MO (λrec hp ha hb hs hpe hN hv l=>?_) (λdl z6=>tX (λhj=>?_) (λhj=>?_))
 .
  rcases rec with⟨st0,pe0,fn0,tm0,ps0,as0,bd0,df0⟩;dsimp only at hp ha hb hs hpe hN hv;subst hp hs hpe;have vN:Ae tm0 [(2,Pt b1),(3,Pt b2),(5,Pt b3)]:=⟨congrArg A.eq (hv 2 _ rfl).symm,congrArg A.eq (hv 3 _ rfl).symm,congrArg A.eq (hv 5 _ rfl).symm,trivial⟩;refine bV.pick (M:=(dH Tryz.prog)) [1,0,2,3,4,5,6,7] [1,0,2,3,4,5,6,7] (om (λ(z6:Value) (q:(List Int)×Bool)=>[.raw l (.loop (j8 ⟨.ready,none,fn0,tm0, #[13],as0,bd0,df0⟩ (Pj q.2))),.obj c 135 (aS a0 z_a0),.obj b1 77 (Pt c),.obj b3 92 (.eq z6),.sl z6 78 (.int .u8) q.1,.obj b2 78 (.eq (.int .u8 a1)),.inv z_a0 (bX k a0)]) l (qC (λ(y5:(List Int)) (p7:Int)=>
  (cZ k a0 p7 a1).bind λr9=>
  if r9=true then((cJ (bP (length y5+length [p7]))).bind λ_=>
  some (y5++[p7],true)) else(some (y5,true)))) k a0.1 b4 (λz6 q p r' h=>?_) (.slice none 0 0) (([]:(List Int)),false) r8 s) rfl (λ_=>rfl) (λ_=>rfl)
  obtain⟨rq,hq,h2,rfl⟩:=tY h;obtain⟨y5,b5⟩:=q;obtain rfl:b5=false:=hq;replace h:=aY h2;obtain⟨p7,hpv⟩:∃x,x=p:=⟨_,rfl⟩;subst hpv;refine YT.pick (R':=(λz6:Value=>(.eq (.bool rq.2),[.raw l (.loop (j8 ⟨.ready,none,fn0,tm0, #[13],as0,bd0,df0⟩ (Pj (!rq.2)))),.obj c 135 (aS a0 z_a0),.obj b1 77 (Pt c),.obj b3 92 (.eq z6),.sl z6 78 (.int .u8) rq.1,.obj b2 78 (.eq (.int .u8 a1)),.inv z_a0 (bX k a0)]))) [0,1,2,3,4,5,6] [0,1,2,3,4,5,6] (Ix ha hb (N:=23) (Γ:=[(2,Pt b1),(3,Pt b2),(5,Pt b3)]) rfl hN (by decide) vN (λS w=>?_)) rfl (λ_=>rfl) (λ_=>rfl);refine ab (aq (nl ?_));refine Am rfl rfl ?_;refine ak (sr (fr 2 ?_));refine lo Jt ?_;refine mq ?_;refine fr 5 ?_;refine lo l7 ?_;obtain⟨r9,n,h⟩:=aa h;refine fr 6 ?_;refine fr 4 ?_;refine aJ (Δ:=[_,_]) (F:=_) (λ_ _ _=>ag rfl _) rfl rfl (aR [.tmp 14,.tmp 15,.tmp 16] rfl rfl QR rfl (nH k a0 c z_a0 p7 a1 r9 n)) ⟨rfl,rfl,rfl,trivial⟩ λ_=>?_;refine nt (cv h (λh=>?_) (λh=>?_))
  .refine ab (fr 5 ?_);refine lo xb ?_;refine mq ?_;refine ja (bg (t:=(.int .u8)) [(.tmp 19,_)] [p7] rfl rfl JG (.cons rfl .int .nil) rfl rfl) ?_;obtain⟨u,e,h⟩:=aa h;refine fr 6 ?_;refine dY rfl rfl rfl (cp rfl rfl JG (am e)) ⟨rfl,rfl,trivial⟩ λj=>?_;refine sR λo12=>?_;refine fr 1 ?_;refine aP rfl rfl (aN rfl xb o12 rfl rfl) ⟨rfl,rfl,trivial⟩ ?_;refine aE (aQ (bo 3 rfl ?_));refine bo 4 rfl ?_;refine bo 3 rfl ?_;refine bo 3 rfl ?_;refine bo 5 rfl ?_;refine bo 5 rfl ?_;refine bo 6 rfl ?_;cases h;exact pi j 6 rfl
  .refine be (aQ (bo 1 rfl ?_));refine bo 2 rfl ?_;refine bo 6 rfl ?_;refine bo 6 rfl ?_;refine bo 5 rfl ?_;refine bo 5 rfl ?_;refine bo 6 rfl ?_;cases h;exact pi z6 6 rfl
 .
  replace h:=cY (MB hj) h;refine aQ (tn (sr (fr 4 ?_)));refine lo xb ?_;refine aq (nt (aA ?_));refine bo 5 rfl ?_;refine bQ (nn (off:=0) [4,22] ⟨rfl,rfl,trivial⟩ rfl rfl) ?_;refine bo 1 rfl ?_;refine DY ?_;refine bQ (SE.fin (Γ':=[(4,_)]) [2,5,0,1,3,4] ⟨rfl,trivial⟩ rfl) ?_;cases h;exact aK () [_] 2 ⟨rfl,trivial⟩ rfl
 .
  replace h:=fg (Me hj) h;cases h
def iD(k:Nat)(a0:ae)(a1:(List Int))(a2:(List Int))(a3:(List Int)):Option ((Option ae)×(List Int)×Int):=
 (jI k a0 ([]:(List Int)) a1 a2 a3).bind λr2=>
 fP r2.1 (if¬(r2.2.2=0) then(some (none,([]:(List Int)),r2.2.2)) else(none)) (λq3=>if¬(r2.2.2=0) then(some (none,([]:(List Int)),r2.2.2)) else((eA k q3 0).bind λr5=>
 if(r5.length:Int)=0 then(some (none,([]:(List Int)),9)) else(some (some q3,r5,0))))
theorem kB(k:Nat)(a0:ae)(a1:(List Int))(a2:(List Int))(a3:(List Int))(r:(Option ae)×(List Int)×Int)(h:iD k a0 a1 a2 a3=some r):
 bV (dH Tryz.prog) 60 [.rep au a0,.rep Tl a1,.rep Tl a2,.rep Tl a3] [] (λz:Nat×Nat=>(bD [JS r.1 z.1,.rep (.slice (.int .u8)) r.2.1,I r.2.2],JR r.1 λq=>qs q z.1 z.2 k)):=by
 unfold iD at h
 replace h:=aY h
 refine bV.of 34 Tryz.func60 rfl Tryz.ntmps60 rfl λS w0=>?_
 refine sr ?_
 refine bx λb1=>?_
 refine cq ?_
 refine cq ?_
 refine cq ?_
 refine nt ?_
 refine sr ?_
 refine lo g7 ?_
 iterate 3 refine mq ?_
 obtain⟨r2,j,h⟩:=aa h
 have c:=lP k a0 ([]:(List Int)) a1 a2 a3 r2 j
 rcases hr:r2.1 with _ |q3
 .
  rw [hr] at h c;replace h:=uP h;refine aJ (Δ:=[]) (F:=_) (λ_ _ _=>ag rfl _) rfl rfl (bI (N:=[(.tmp 16,.rep au a0),(.const (.slice none 0 0),.eq (.slice none 0 0)),(.tmp 17,.rep Tl a1),(.tmp 18,.rep Tl a2),(.tmp 19,.rep Tl a3)]) (aR [.tmp 16,.const (.slice none 0 0),.tmp 17,.tmp 18,.tmp 19] rfl rfl zJ rfl c) λ_ _ _ hn=>⟨hn.1,(aC (t:=Tl) (x:=([]:(List Int))) .nil rfl rfl hn.2.1),hn.2.2.1,hn.2.2.2.1,hn.2.2.2.2.1,trivial⟩) ⟨rfl,rfl,rfl,rfl,rfl,trivial⟩ λ_=>?_;refine mq ?_;refine xr ?_;refine xr ?_;refine xr ?_;refine aq ?_;refine aq ?_;refine aq (nt (aj (sr ?_)));refine mq ?_;refine jb (fh rfl) ?_;refine nt (cn h (λh=>?_) (λh=>?_))
  .refine sr (mq ?_);refine cq ?_;refine cq ?_;refine aq (nt (rx ?_));refine bQ (eE (t:=(.slice (.int .u8))) (x:=([]:(List Int))) 9 rfl .nil rfl rfl) ?_;cases h;exact aK (0,0) [.eq (.pointer none),_,_] 0 ⟨rfl,rfl,rfl,trivial⟩ rfl
  .cases h
 .
  rw [hr] at h c;replace h:=uO h;refine aJ (Δ:=[]) (F:=_) (λ_ _ _=>ag rfl _) rfl rfl (bI (N:=[(.tmp 16,.rep au a0),(.const (.slice none 0 0),.eq (.slice none 0 0)),(.tmp 17,.rep Tl a1),(.tmp 18,.rep Tl a2),(.tmp 19,.rep Tl a3)]) (aR [.tmp 16,.const (.slice none 0 0),.tmp 17,.tmp 18,.tmp 19] rfl rfl zJ rfl c) λ_ _ _ hn=>⟨hn.1,(aC (t:=Tl) (x:=([]:(List Int))) .nil rfl rfl hn.2.1),hn.2.2.1,hn.2.2.2.1,hn.2.2.2.2.1,trivial⟩) ⟨rfl,rfl,rfl,rfl,rfl,trivial⟩ λz4=>?_;refine mq ?_;refine xr ?_;refine xr ?_;refine xr ?_;refine aq ?_;refine aq ?_;refine aq (nt (aj (sr ?_)));refine mq ?_;refine jb (fh rfl) ?_;refine nt (cn h (λh=>?_) (λh=>?_))
  .refine sr (mq ?_);refine cq ?_;refine cq ?_;refine aq (nt (rx ?_));refine bQ (eE (t:=(.slice (.int .u8))) (x:=([]:(List Int))) 9 rfl .nil rfl rfl) ?_;cases h;exact aK (0,0) [.eq (.pointer none),_,_] 0 ⟨rfl,rfl,rfl,trivial⟩ rfl
  .refine sk (sr (mq ?_));obtain⟨r5,e,h⟩:=aa h;refine fr 1 ?_;refine fr 1 ?_;refine aJ (Δ:=[_,_]) (F:=_) (λ_ _ _=>ag rfl _) rfl rfl (aR [.tmp 27,.const (.int .u8 (0))] rfl rfl QB rfl (ku k q3 z4.1 z4.2 0 r5 e)) ⟨rfl,rfl,trivial⟩ λ_=>?_;refine aq (nt (aj (sr ?_)));refine mq ?_;refine ol vL ?_;refine jb (hH rfl) ?_;refine nt (ci h (λh=>?_) (λh=>?_))
   .refine sr (cq ?_);refine cq ?_;refine cq (nt (rx ?_));refine bQ (eE (t:=(.slice (.int .u8))) (x:=([]:(List Int))) 9 rfl .nil rfl rfl) ?_;cases h;exact aK (0,0) [.eq (.pointer none),_,_] 0 ⟨rfl,rfl,rfl,trivial⟩ rfl
   .refine sk (sr ?_);iterate 2 refine mq ?_
    refine aq ?_;refine aq ?_;refine cq (nt (aA ?_));cases h;exact aK (z4.1,z4.2) [.eq (.pointer (some ⟨z4.1,0,none⟩)),_,_] 2 ⟨rfl,rfl,rfl,trivial⟩ rfl
def lQ(k:Nat)(a0:ae)(a1:Int)(r2:(Option ae)×(List Int)×Int)(q3:ae)(y7:(List Int)×Int):Nat->(Int×Int)->Option Int
 |0,_=>none
 |n+1,c=>
  if c.2 < (r2.2.1.length:Int) then((((aM r2.2.1 c.2).bind λr=>
  (lI k q3 r).bind λu=>
  (aM u a1).bind λl=>
  (aM l y7.2).bind λj=>
  if a0.2.2.1≤j then((ck (c.1+1)).bind λh=>
  some h) else(some c.1)):Option (Int)).bind λs=>
  (ck (c.2+1)).bind λe=>
  lQ k a0 a1 r2 q3 y7 n (s,e)) else(some c.1)
def lR(k:Nat)(a0:ae)(a1:Int)(r2:(Option ae)×(List Int)×Int)(q3:ae):Nat->((List Int)×Int)->Option (List Int)
 |0,_=>none
 |n+1,y7=>
  if y7.2 < a0.1 then(((((lQ k a0 a1 r2 q3 y7 k (0,0)):Option (Int)).bind λc=>
  (ck ((r2.2.1.length:Int) - c)).bind λe=>
  (cJ (bP (length y7.1+length [sw c e]))).bind λ_=>
  some (y7.1++[sw c e])):Option ((List Int))).bind λx9=>
  (ck (y7.2+1)).bind λh=>
  lR k a0 a1 r2 q3 n (x9,h)) else(some y7.1)
def uq(k:Nat)(a0:ae)(a1:Int):Option (Int×Int×Int):=
 (iD k a0 ([]:(List Int)) ([]:(List Int)) [a1]).bind λr2=>
 fP r2.1 (if¬(r2.2.2=0) then(some (0,0,r2.2.2)) else(none)) (λq3=>if¬(r2.2.2=0) then(some (0,0,r2.2.2)) else(((lR k a0 a1 r2 q3 k (([]:(List Int)),0)):Option ((List Int))).bind λx5=>
 (lK k x5).bind λc=>
 if(r2.2.1.length:Int)≤c then(some (0,0,11)) else((fZ k x5 c).bind λe=>
 some (e,c,0))))
theorem zk(k:Nat)(a0:ae)(a1:Int)(r:Int×Int×Int)(h:uq k a0 a1=some r):
 bV (dH Tryz.prog) 25 [.rep au a0,I a1] [] (λ_:Unit=>(bD [I r.1,I r.2.1,I r.2.2],[])):=by
 unfold uq at h
 replace h:=aY h
 refine bV.of 71 Tryz.func25 rfl Tryz.ntmps25 rfl λS w0=>?_
 refine sr ?_
 refine bx λb1=>?_
 refine cq ?_
 refine cq ?_
 refine cq ?_
 refine nt ?_
 refine sr ?_
 refine lo g7 ?_
 refine mq ?_
 refine ja (bg (t:=Ti) [(.tmp 18,_)] [a1] rfl rfl dM (.cons rfl .int .nil) rfl rfl) ?_
 obtain⟨r2,Uu,h⟩:=aa h
 have s:=kB k a0 ([]:(List Int)) ([]:(List Int)) [a1] r2 Uu
 rcases hr:r2.1 with _ |q3
 .
  rw [hr] at h s;replace h:=uP h;refine aJ (Δ:=[]) (F:=_) (λ_ _ _=>ag rfl _) rfl rfl (bI (N:=[(.tmp 17,.rep au a0),(.const (.slice none 0 0),.eq (.slice none 0 0)),(.const (.slice none 0 0),.eq (.slice none 0 0)),(.tmp 19,.rep Tl [a1])]) (aR [.tmp 17,.const (.slice none 0 0),.const (.slice none 0 0),.tmp 19] rfl rfl zI rfl s) λ_ _ _ hn=>⟨hn.1,(aC (t:=Tl) (x:=([]:(List Int))) .nil rfl rfl hn.2.1),(aC (t:=Tl) (x:=([]:(List Int))) .nil rfl rfl hn.2.2.1),hn.2.2.2.1,trivial⟩) ⟨rfl,rfl,rfl,rfl,trivial⟩ λ_=>?_;refine mq ?_;refine xr ?_;refine xr ?_;refine xr ?_;refine aq ?_;refine aq ?_;refine aq (nt (aj (sr ?_)));refine mq ?_;refine jb (fh rfl) ?_;refine nt (cn h (λh=>?_) (λh=>?_))
  .refine sr (mq ?_);refine cq ?_;refine cq ?_;refine aq (nt (rx ?_));cases h;exact aK () [_,_,_] 0 ⟨rfl,rfl,rfl,trivial⟩ rfl
  .cases h
 .
  rw [hr] at h s;replace h:=uO h;refine aJ (Δ:=[]) (F:=_) (λ_ _ _=>ag rfl _) rfl rfl (bI (N:=[(.tmp 17,.rep au a0),(.const (.slice none 0 0),.eq (.slice none 0 0)),(.const (.slice none 0 0),.eq (.slice none 0 0)),(.tmp 19,.rep Tl [a1])]) (aR [.tmp 17,.const (.slice none 0 0),.const (.slice none 0 0),.tmp 19] rfl rfl zI rfl s) λ_ _ _ hn=>⟨hn.1,(aC (t:=Tl) (x:=([]:(List Int))) .nil rfl rfl hn.2.1),(aC (t:=Tl) (x:=([]:(List Int))) .nil rfl rfl hn.2.2.1),hn.2.2.2.1,trivial⟩) ⟨rfl,rfl,rfl,rfl,trivial⟩ λz4=>?_;refine mq ?_;refine xr ?_;refine xr ?_;refine xr ?_;refine aq ?_;refine aq ?_;refine aq (nt (aj (sr ?_)));refine mq ?_;refine jb (fh rfl) ?_;refine nt (cn h (λh=>?_) (λh=>?_))
  .refine sr (mq ?_);refine cq ?_;refine cq ?_;refine aq (nt (rx ?_));cases h;exact aK () [_,_,_] 0 ⟨rfl,rfl,rfl,trivial⟩ rfl
  .refine sk (sr (cq (nt ?_)));refine aH (Z:=Value) (α:=(List Int)) (λz6 x5=>[(8,.rep (.slice (.int .u8)) r2.2.1),(10,.eq z6)]) (λz6 x5=>[.sl z6 3 Ti x5,.inv z4.2 (bX k q3)]) h (λK h=>?_) (λz6 x5 h=>?_)
   .refine sr (fl gW ?_);refine fr 2 ?_;refine lo cN ?_;refine ff rfl ?_;refine nt (ak (jd (SE.nil 3 Ti) ?_));refine aI (λz8 y7=>[(1,I a1),(2,Pt b1),(7,.eq (.pointer (some ⟨z4.1,0,none⟩))),(8,.rep (.slice (.int .u8)) r2.2.1),(10,.eq z8),(28,I a0.1),(29,I y7.2)]) (λz8 y7=>[.obj b1 25 (.rep au a0),.obj z4.1 135 (aS q3 z4.2),.sl z8 3 Ti y7.1,.inv z4.2 (bX k q3)]) (lR k a0 a1 r2 q3) k (.slice none 0 0) (([]:(List Int)),0) (λ_=>rfl) h (SE.fin [1,2,0,3] ⟨rfl,rfl,rfl,rfl,rfl,rfl,rfl,trivial⟩ rfl) (λn z8 y7 h=>?_);unfold lR at h;refine sr (jb (bF rfl) ?_);refine nt (aj (ci h (λh=>?_) (λh=>?_)))
    .refine sk (aH (Z:=Value) (α:=(List Int)) (λe x9=>[(1,I a1),(2,Pt b1),(7,.eq (.pointer (some ⟨z4.1,0,none⟩))),(8,.rep (.slice (.int .u8)) r2.2.1),(10,.eq e),(28,I a0.1),(29,I y7.2)]) (λe x9=>[.obj b1 25 (.rep au a0),.obj z4.1 135 (aS q3 z4.2),.sl e 3 Ti x9,.inv z4.2 (bX k q3)]) h (λK h=>?_) (λe x9 h=>?_))
     .refine ak (sr (mq ?_));refine aq (nt (sr ?_));refine cq (nt ?_);refine aH (Z:=Unit) (α:=Int) (λE j=>[(1,I a1),(2,Pt b1),(7,.eq (.pointer (some ⟨z4.1,0,none⟩))),(8,.rep (.slice (.int .u8)) r2.2.1),(10,.eq z8),(12,I j),(28,I a0.1),(29,I y7.2)]) (λE j=>[.obj b1 25 (.rep au a0),.obj z4.1 135 (aS q3 z4.2),.sl z8 3 Ti y7.1,.inv z4.2 (bX k q3)]) h (λK h=>?_) (λE j h=>?_)
      .refine sr (mq ?_);refine ol vL ?_;refine ff rfl ?_;refine nt (ak (aI (λD c=>[(1,I a1),(2,Pt b1),(7,.eq (.pointer (some ⟨z4.1,0,none⟩))),(8,.rep (.slice (.int .u8)) r2.2.1),(10,.eq z8),(11,I y7.2),(12,I c.1),(28,I a0.1),(29,I y7.2),(32,.rep (.slice (.int .u8)) r2.2.1),(33,I (r2.2.1.length:Int)),(34,I c.2)]) (λD c=>[.obj b1 25 (.rep au a0),.obj z4.1 135 (aS q3 z4.2),.sl z8 3 Ti y7.1,.inv z4.2 (bX k q3)]) (lQ k a0 a1 r2 q3 y7) k () (0,0) (λ_=>rfl) h (SE.fin [0,1,2,3] ⟨rfl,rfl,rfl,rfl,rfl,rfl,rfl,rfl,rfl,rfl,rfl,rfl,trivial⟩ rfl) (λn D c h=>?_)));unfold lQ at h;refine sr (jb (bF rfl) ?_);refine nt (aj (ci h (λh=>?_) (λh=>?_)))
       .refine sk (aH (Z:=Unit) (α:=Int) (λy l=>[(1,I a1),(2,Pt b1),(7,.eq (.pointer (some ⟨z4.1,0,none⟩))),(8,.rep (.slice (.int .u8)) r2.2.1),(10,.eq z8),(11,I y7.2),(12,I l),(28,I a0.1),(29,I y7.2),(32,.rep (.slice (.int .u8)) r2.2.1),(33,I (r2.2.1.length:Int)),(34,I c.2)]) (λy l=>[.obj b1 25 (.rep au a0),.obj z4.1 135 (aS q3 z4.2),.sl z8 3 Ti y7.1,.inv z4.2 (bX k q3)]) h (λK h=>?_) (λy l h=>?_))
        .refine ak (sr ?_);obtain⟨Up,gw,h⟩:=aa h;refine jb (aU (t:=(.int .u8)) rfl vL l7 gw) ?_;refine ja (ap (t:=(.int .u8)) rfl l7 rfl) ?_;refine aq (nt (aj ?_));refine cL ?_;refine dm ?_;refine dm ?_;obtain⟨Ut,zz,h⟩:=aa h;refine O4 1 3 rfl rfl (by kernel_rfl) rfl rfl rfl (aR [.tmp 38,.tmp 39] rfl rfl EJ rfl (o0 k q3 z4.1 z4.2 Up Ut zz)) ⟨rfl,rfl,trivial⟩ ?_;refine dm ?_;obtain⟨Ux,Y,h⟩:=aa h;refine db (nZ (t:=Tr) rfl I8 i8 rfl rfl (tC) Y) ?_;refine dm ?_;obtain⟨Uw,X,h⟩:=aa h;refine db (nZ (t:=Ti) rfl BY cN rfl rfl (λ_=>rfl) X) ?_;refine da (aD rfl xQ) ?_;refine ea 0 (ax rfl cN ny rfl) ?_;refine df d4 ?_;refine jb (kp rfl) ?_;refine nt (ci h (λh=>?_) (λh=>?_))
         .refine ab (mq ?_);obtain⟨Uo,U,h⟩:=aa h;refine jb (bB rfl U) ?_;refine aq (aE (bn ?_));exact jz ((),Uo) h [0,1,2,3]
         .refine be (bn ?_);exact jz ((),c.1) h [0,1,2,3]
        .refine ab ?_;obtain⟨Un,Q,h⟩:=aa h;refine jb (bB rfl Q) ?_;refine mq (nl ?_);exact jz ((),(l,Un)) h [0,1,2,3]
       .refine xa ?_;exact jz ((),c.1) h [0,1,2,3]
      .refine ab ?_;iterate 3 refine mq ?_
       refine ol vL ?_;refine mq ?_;obtain⟨J,O,h⟩:=aa h;refine jb (eg rfl O) ?_;refine jb (G3 rfl rfl) ?_;refine ja (bg (t:=Ti) [(.tmp 57,_)] [sw j J] rfl rfl dM (.cons rfl .int .nil) rfl rfl) ?_;obtain⟨Uy,mc,h⟩:=aa h;refine fr 2 ?_;refine dY rfl rfl rfl (cp rfl rfl dM (am mc)) ⟨rfl,rfl,trivial⟩ λUr=>?_;refine aq (aE (bn ?_));exact jz (Ur,y7.1++[sw j J]) h [1,2,0,3]
     .refine ab ?_;obtain⟨Um,M,h⟩:=aa h;refine jb (bB rfl M) ?_;refine mq (nl ?_);exact jz (e,(x9,Um)) h [0,1,2,3]
    .refine xa ?_;exact jz (z8,y7.1) h [2,3]
   .refine sr (mq ?_);obtain⟨u,qt,h⟩:=aa h;refine ka (lB (N:=[(.tmp 61,.eq z6)]) (av [.tmp 61] rfl rfl QD rfl (nR k x5 u qt)) (λ_ _ _ hv hn=>⟨(lend hn.1 hv),trivial⟩) (λ_=>⟨rfl,ox⟩)) ?_;refine aq (nt (aj (sr ?_)));iterate 2 refine mq ?_
    refine ol vL ?_;refine jb (kp rfl) ?_;refine nt (ci h (λh=>?_) (λh=>?_))
    .refine sr (cq ?_);refine cq ?_;refine cq (nt (rx ?_));cases h;exact aK () [_,_,_] 0 ⟨rfl,rfl,rfl,trivial⟩ rfl
    .refine sk (sr ?_);iterate 2 refine mq ?_
     obtain⟨Us,mw,h⟩:=aa h;refine kb (lB (N:=[(.tmp 67,.eq z6),(.tmp 68,I u)]) (av [.tmp 67,.tmp 68] rfl rfl QC rfl (mr k x5 u Us mw)) (λ_ _ _ hv hn=>⟨(lend hn.1 hv),hn.2.1,trivial⟩) (λ_=>⟨rfl,ox⟩)) ?_;refine mq ?_;refine aq ?_;refine aq ?_;refine cq (nt (aA ?_));cases h;exact aK () [_,_,_] 0 ⟨rfl,rfl,rfl,trivial⟩ rfl
def dJ(k:Nat)(r7:(List Int)):Nat->((List (List Int))×Int)->Option (List (List Int))
 |0,_=>none
 |n+1,y8=>
  if y8.2 < (r7.length:Int) then((aM r7 y8.2).bind λh=>
  (d5 k h).bind λc=>
  (cJ (bP (length y8.1+length [c]))).bind λ_=>
  (ck (y8.2+1)).bind λe=>
  dJ k r7 n (y8.1++[c],e)) else(some y8.1)
def jj(k:Nat)(a0:ae):Option ((List (List Int))×Int):=
 (jI k a0 ([]:(List Int)) ([]:(List Int)) ([]:(List Int)) ([]:(List Int))).bind λr2=>
 fP r2.1 (if¬(r2.2.2=0) then(some (([]:(List (List Int))),r2.2.2)) else(none)) (λq3=>if¬(r2.2.2=0) then(some (([]:(List (List Int))),r2.2.2)) else((((eA k q3 0).bind λr7=>
 dJ k r7 k (([]:(List (List Int))),0)):Option ((List (List Int)))).bind λx5=>
 some (x5,0)))
theorem pA(k:Nat)(a0:ae)(r:(List (List Int))×Int)(h:jj k a0=some r):
 bV (dH Tryz.prog) 28 [.rep au a0] [] (λ_:Unit=>(bD [.rep (.slice Tl) r.1,I r.2],[])):=by
 unfold jj at h
 replace h:=aY h
 refine bV.of 33 Tryz.func28 rfl Tryz.ntmps28 rfl λS w0=>?_
 refine sr ?_
 refine bx λb1=>?_
 refine cq ?_
 refine cq ?_
 refine nt ?_
 refine sr ?_
 refine lo g7 ?_
 obtain⟨r2,M,h⟩:=aa h
 have c:=lP k a0 ([]:(List Int)) ([]:(List Int)) ([]:(List Int)) ([]:(List Int)) r2 M
 rcases hr:r2.1 with _ |q3
 .
  rw [hr] at h c;replace h:=uP h;refine aJ (Δ:=[]) (F:=_) (λ_ _ _=>ag rfl _) rfl rfl (bI (N:=[(.tmp 11,.rep au a0),(.const (.slice none 0 0),.eq (.slice none 0 0)),(.const (.slice none 0 0),.eq (.slice none 0 0)),(.const (.slice none 0 0),.eq (.slice none 0 0)),(.const (.slice none 0 0),.eq (.slice none 0 0))]) (aR [.tmp 11,.const (.slice none 0 0),.const (.slice none 0 0),.const (.slice none 0 0),.const (.slice none 0 0)] rfl rfl zJ rfl c) λ_ _ _ hn=>⟨hn.1,(aC (t:=Tl) (x:=([]:(List Int))) .nil rfl rfl hn.2.1),(aC (t:=Tl) (x:=([]:(List Int))) .nil rfl rfl hn.2.2.1),(aC (t:=Tl) (x:=([]:(List Int))) .nil rfl rfl hn.2.2.2.1),(aC (t:=Tl) (x:=([]:(List Int))) .nil rfl rfl hn.2.2.2.2.1),trivial⟩) ⟨rfl,rfl,rfl,rfl,rfl,trivial⟩ λ_=>?_;refine mq ?_;refine xr ?_;refine xr ?_;refine xr ?_;refine aq ?_;refine aq ?_;refine aq (nt (aj (sr ?_)));refine mq ?_;refine jb (fh rfl) ?_;refine nt (cn h (λh=>?_) (λh=>?_))
  .refine sr (mq ?_);refine cq ?_;refine aq (nt (rx ?_));refine bQ (eE (t:=(.slice Tl)) (x:=([]:(List (List Int)))) 2 rfl .nil rfl rfl) ?_;cases h;exact rb
  .cases h
 .
  rw [hr] at h c;replace h:=uO h;refine aJ (Δ:=[]) (F:=_) (λ_ _ _=>ag rfl _) rfl rfl (bI (N:=[(.tmp 11,.rep au a0),(.const (.slice none 0 0),.eq (.slice none 0 0)),(.const (.slice none 0 0),.eq (.slice none 0 0)),(.const (.slice none 0 0),.eq (.slice none 0 0)),(.const (.slice none 0 0),.eq (.slice none 0 0))]) (aR [.tmp 11,.const (.slice none 0 0),.const (.slice none 0 0),.const (.slice none 0 0),.const (.slice none 0 0)] rfl rfl zJ rfl c) λ_ _ _ hn=>⟨hn.1,(aC (t:=Tl) (x:=([]:(List Int))) .nil rfl rfl hn.2.1),(aC (t:=Tl) (x:=([]:(List Int))) .nil rfl rfl hn.2.2.1),(aC (t:=Tl) (x:=([]:(List Int))) .nil rfl rfl hn.2.2.2.1),(aC (t:=Tl) (x:=([]:(List Int))) .nil rfl rfl hn.2.2.2.2.1),trivial⟩) ⟨rfl,rfl,rfl,rfl,rfl,trivial⟩ λz4=>?_;refine mq ?_;refine xr ?_;refine xr ?_;refine xr ?_;refine aq ?_;refine aq ?_;refine aq (nt (aj (sr ?_)));refine mq ?_;refine jb (fh rfl) ?_;refine nt (cn h (λh=>?_) (λh=>?_))
  .refine sr (mq ?_);refine cq ?_;refine aq (nt (rx ?_));refine bQ (eE (t:=(.slice Tl)) (x:=([]:(List (List Int)))) 2 rfl .nil rfl rfl) ?_;cases h;exact rb
  .refine sk (sr (cq (nt ?_)));refine aH (Z:=Value) (α:=(List (List Int))) (λz6 x5=>[(7,.eq z6)]) (λz6 x5=>[.sl z6 28 Tl x5,.inv z4.2 (bX k q3)]) h (λK h=>?_) (λz6 x5 h=>?_)
   .refine sr (mq ?_);obtain⟨r7,J,h⟩:=aa h;refine fr 1 ?_;refine fr 1 ?_;refine aJ (Δ:=[_,_]) (F:=_) (λ_ _ _=>ag rfl _) rfl rfl (aR [.tmp 19,.const (.int .u8 (0))] rfl rfl QB rfl (ku k q3 z4.1 z4.2 0 r7 J)) ⟨rfl,rfl,trivial⟩ λ_=>?_;refine ol vL ?_;refine ff rfl ?_;refine nt (ak (jd (SE.nil 28 Tl) ?_));refine aI (λz9 y8=>[(7,.eq z9),(20,.rep (.slice (.int .u8)) r7),(21,I (r7.length:Int)),(22,I y8.2)]) (λz9 y8=>[.sl z9 28 Tl y8.1,.inv z4.2 (bX k q3)]) (dJ k r7) k (.slice none 0 0) (([]:(List (List Int))),0) (λ_=>rfl) h (SE.fin [0,2] ⟨rfl,rfl,rfl,rfl,trivial⟩ rfl) (λn z9 y8 h=>?_);unfold dJ at h;refine sr (jb (bF rfl) ?_);refine nt (aj (ci h (λh=>?_) (λh=>?_)))
    .refine sk (aj (ak (sr ?_)));obtain⟨D,l,h⟩:=aa h;refine jb (aU (t:=(.int .u8)) rfl vL l7 l) ?_;refine ja (ap (t:=(.int .u8)) rfl l7 rfl) ?_;refine aq (nt (ab ?_));iterate 2 refine mq ?_
     obtain⟨e,u,h⟩:=aa h;refine ja (av [.tmp 27] rfl rfl Ia rfl (fV k D e u)) ?_;refine ja (bg (t:=Tl) [(.tmp 28,_)] [e] rfl rfl my (.cons rfl .rep .nil) rfl rfl) ?_;obtain⟨O,s,h⟩:=aa h;refine dY rfl rfl rfl (cp rfl rfl my (am s)) ⟨rfl,rfl,trivial⟩ λE=>?_;refine aq (aE (aQ (tn (ab ?_))));obtain⟨y,j,h⟩:=aa h;refine jb (bB rfl j) ?_;refine mq (nl ?_);exact jz (E,(y8.1++[e],y)) h [0,1]
    .refine xa ?_;exact jz (z9,y8.1) h [0,1]
   .refine sr (mq ?_);refine aq ?_;refine cq (nt (aA ?_));refine bQ (gY [2,7,32] ⟨rfl,rfl,rfl,trivial⟩) ?_;cases h;exact rb
def fO(k:Nat)(a2:Int)(r1:(List (List Int)))(x5:Int):Nat->Int->Option (Except Int Unit)
 |0,_=>none
 |n+1,y6=>
  if y6 < x5 then((aM r1 y6).bind λx8=>
  (aM x8 a2).bind λx9=>
  if 0≤x9 then(some (.error y6)) else((ck (y6+1)).bind λc=>
  fO k a2 r1 x5 n c)) else(some (.ok ()))
def im(k:Nat)(a0:ae)(a1:Int)(a2:Int):Option Int:=
 (lI k a0 a1).bind λr1=>
 bE (α:=Unit) ((ck ((a0.2.2.2.2.1.length:Int)+1)).bind λx5=>
 fO k a2 r1 x5 k 0) (some) λ_=>
 some (-1:Int)
theorem li(k:Nat)(a0:ae)(c z_a0:Nat)(a1:Int)(a2:Int)(r:Int)(h:im k a0 a1 a2=some r):
 bV (dH Tryz.prog) 74 [Pt c,.eq (.int .u8 a1),I a2] [.obj c 135 (aS a0 z_a0),.inv z_a0 (bX k a0)] (λ_:Unit=>(bD [I r],[.obj c 135 (aS a0 z_a0),.inv z_a0 (bX k a0)])):=by
 unfold im at h
 replace h:=aY h
 refine bV.of 30 Tryz.func74 rfl Tryz.ntmps74 rfl λS w0=>?_
 refine sr ?_
 refine cq ?_
 refine nt ?_
 refine sr ?_
 iterate 2 refine mq ?_
 obtain⟨r1,D,h⟩:=aa h
 have E:=o0 k a0 c z_a0 a1 r1 D
 refine fr 1 ?_
 refine fr 1 ?_
 refine aJ (Δ:=[_,_]) (F:=_) (λ_ _ _=>ag rfl _) rfl rfl (aR [.tmp 9,.tmp 10] rfl rfl EJ rfl E) ⟨rfl,rfl,trivial⟩ λ_=>?_
 refine aX rfl rfl rfl (bi rfl Fz Is) trivial λb2=>?_
 refine aP rfl rfl (aN rfl Gi rfl rfl rfl) ⟨rfl,rfl,trivial⟩ ?_
 refine eG (jr (t:=(.arr 7 Tr)) (x:=r1) [7] .rep ⟨rfl,trivial⟩) ?_
 refine nt ?_
 refine dB (Z:=Unit) (α:=Unit) (λz4 x3=>[]) (λz4 x3=>[.obj c 135 (aS a0 z_a0),.inv z_a0 (bX k a0)]) (λe=>e=r) h (λe h=>Option.some.inj h) (λK hR h=>?_) (λz4 x3 h=>?_)
 .
  refine sr (mq ?_);refine ja (cM rfl) ?_;refine fl gK ?_;refine fl eK ?_;refine lo lG ?_;refine ol AA ?_;obtain⟨x5,y,h⟩:=aa h;refine jb (bB rfl y) ?_;refine ff rfl ?_;refine nt (ak (aI (λz7 y6=>[(2,I a2),(7,.at (.arr 7 Tr) r1),(18,I x5),(19,I y6)]) (λz7 y6=>[.obj c 135 (aS a0 z_a0),.inv z_a0 (bX k a0)]) (fO k a2 r1 x5) k () 0 (λ_=>rfl) h (SE.fin [0,1] ⟨rfl,rfl,rfl,rfl,trivial⟩ rfl) (λn z7 y6 h=>?_)));unfold fO at h;refine sr (jb (bF rfl) ?_);refine nt (aj (ci h (λh=>?_) (λh=>?_)))
  .refine sk (aj (ak (sr (mq ?_))));refine aq (nt (sr ?_));iterate 2 refine mq ?_
   obtain⟨x8,u,h⟩:=aa h;refine jb (cg (t:=Tr) rfl I8 i8 u) ?_;obtain⟨x9,s,h⟩:=aa h;refine jb (cg (t:=Ti) rfl BY cN s) ?_;refine ja (ap (t:=Ti) rfl cN rfl) ?_;refine jb (kp rfl) ?_;refine nt (ci h (λh=>?_) (λh=>?_))
   .refine sr (mq ?_);refine aq (nt (aA (br (bJ (bC ?_)))));obtain rfl:=hR _ h;exact aK () [_] 2 ⟨rfl,trivial⟩ rfl
   .refine be (aQ (tn (ab ?_)));obtain⟨l,j,h⟩:=aa h;refine jb (bB rfl j) ?_;refine mq (nl ?_);exact jz ((),l) h [0,1]
  .refine xa ?_;exact jz ((),()) h [0,1]
 .
  refine sr (cq (nt (aA ?_)));cases h;exact aK () [_] 2 ⟨rfl,trivial⟩ rfl
def gd(k:Nat)(r2:(List (List Int)))(y6:Int×Int×(List (eL×eL))):Nat->Int->Option Int
 |0,_=>none
 |n+1,c=>
  ((if 0 < c then((ck (c - 1)).bind λl=>
  (aM r2 l).bind λj=>
  (aM j y6.1).bind λh=>
  some (decide (0≤h))) else(some false)):Option (Bool)).bind λr=>
  if r=true then((ck (c - 1)).bind λe=>
  gd k r2 y6 n e) else(some c)
def ge(k:Nat)(a0:ae)(r2:(List (List Int))):Nat->(Int×Int×(List (eL×eL)))->Option (List (fx×fx))
 |0,_=>none
 |n+1,y6=>
  bE (α:=Int×Int×(List (eL×eL))) (((gd k r2 y6 k y6.2.1):Option (Int)).bind λc=>
  if c=0 then((cJ (yK (y6.1,y6.2.1))).bind λ_=>
  some (.error (Bm y6.2.2 (y6.1,y6.2.1) ((-1:Int),0)))) else((ck (c - 1)).bind λr=>
  (aM r2 r).bind λl=>
  (ck (c - 1)).bind λj=>
  (dp k a0 l y6.1 j).bind λh=>
  (ck (c - 1)).bind λe=>
  (cJ (yK (y6.1,y6.2.1))).bind λ_=>
  some (.ok (h,e,Bm y6.2.2 (y6.1,y6.2.1) (h,e))))) (some) λx8=>
  ge k a0 r2 n (x8.1,x8.2.1,x8.2.2)
def ll(k:Nat)(a0:ae)(a1:Int)(a2:fx):Option (List (fx×fx)):=
 (lI k a0 a1).bind λr2=>
 ge k a0 r2 k (a2.1,a2.2,([]:List (eL×eL)))
theorem qR(k:Nat)(a0:ae)(c z_a0:Nat)(a1:Int)(a2:fx)(r:(List (fx×fx)))(h:ll k a0 a1 a2=some r):
 bV (dH Tryz.prog) 79 [Pt c,.eq (.int .u8 a1),.rep bM a2] [.obj c 135 (aS a0 z_a0),.inv z_a0 (bX k a0)] (λz:Nat=>(bD [.eq (.map (some z))],[.inv z (ta r),.obj c 135 (aS a0 z_a0),.inv z_a0 (bX k a0)])):=by
 unfold ll at h
 replace h:=aY h
 refine bV.of 56 Tryz.func79 rfl Tryz.ntmps79 rfl λS w0=>?_
 refine sr ?_
 refine bx λb1=>?_
 refine cq ?_
 refine nt ?_
 refine sr ?_
 iterate 2 refine mq ?_
 obtain⟨r2,UI,h⟩:=aa h
 have UJ:=o0 k a0 c z_a0 a1 r2 UI
 refine fr 2 ?_
 refine fr 2 ?_
 refine aJ (Δ:=[_,_]) (F:=_) (λ_ _ _=>ag rfl _) rfl rfl (aR [.tmp 12,.tmp 13] rfl rfl EJ rfl UJ) ⟨rfl,rfl,trivial⟩ λ_=>?_
 refine aX rfl rfl rfl (bi rfl Fz Is) trivial λb3=>?_
 refine aP rfl rfl (aN rfl Gi rfl rfl rfl) ⟨rfl,rfl,trivial⟩ ?_
 refine eG (jr (t:=(.arr 7 Tr)) (x:=r2) [7] .rep ⟨rfl,trivial⟩) ?_
 refine nt ?_
 refine sr ?_
 refine aX rfl rfl rfl (wj rfl) trivial λz4=>?_
 refine eG (sP (ta []) Jq) ?_
 refine aq ?_
 refine nt ?_
 refine sr ?_
 refine aX rfl rfl rfl (bi rfl sV Ab) trivial λb5=>?_
 refine nt ?_
 refine sr ?_
 refine fl xR ?_
 refine aP rfl rfl (aN rfl cN rfl rfl rfl) ⟨rfl,rfl,trivial⟩ ?_
 refine nt ?_
 refine ak ?_
 refine dQ 4 rfl ?_
 refine jd (ir (a:=.rep bM a2) (a':=.agg (.pair (I a2.1) (I a2.2))) (AE.trans D8 (AE.agg (AE.trans Ap (AE.pair AE.int AE.int))))) ?_
 refine aI (λz7 y6=>[(0,Pt c),(5,Pt b1),(7,.at (.arr 7 Tr) r2),(8,.eq (.map (some z4))),(9,Pt b5)]) (λz7 y6=>[.obj c 135 (aS a0 z_a0),.obj b1 110 (.agg (.pair (I y6.1) (I y6.2.1))),.obj b5 110 (.agg (.pair (I (-1:Int)) (I 0))),.inv z_a0 (bX k a0),.inv z4 (ta y6.2.2)]) (ge k a0 r2) k () (a2.1,a2.2,([]:List (eL×eL))) (λ_=>rfl) h (SE.fin [3,0,1,4,2] ⟨rfl,rfl,rfl,rfl,rfl,trivial⟩ rfl) (λn z7 y6 h=>?_)
 unfold ge at h
 refine IU (Z:=Unit) (α:=Int×Int×(List (eL×eL))) (λz9 x8=>[(0,Pt c),(5,Pt b1),(7,.at (.arr 7 Tr) r2),(8,.eq (.map (some z4))),(9,Pt b5)]) (λz9 x8=>[.obj c 135 (aS a0 z_a0),.obj b1 110 (.agg (.pair (I x8.1) (I x8.2.1))),.obj b5 110 (.agg (.pair (I (-1:Int)) (I 0))),.inv z_a0 (bX k a0),.inv z4 (ta x8.2.2)]) (λe=>e=r) h (λe h=>Option.some.inj h) (λK hR h=>?_) (λz9 x8 h=>?_)
 .
  refine ak (sr (fl KY ?_));refine fr 1 ?_;refine lo cN ?_;refine aq (nt ?_);refine aH (Z:=Unit) (α:=Int) (λO D=>[(0,Pt c),(5,Pt b1),(7,.at (.arr 7 Tr) r2),(8,.eq (.map (some z4))),(9,Pt b5),(10,I D)]) (λO D=>[.obj c 135 (aS a0 z_a0),.obj b1 110 (.agg (.pair (I y6.1) (I y6.2.1))),.obj b5 110 (.agg (.pair (I (-1:Int)) (I 0))),.inv z_a0 (bX k a0),.inv z4 (ta y6.2.2)]) h (λK h=>?_) (λO D h=>?_)
  .refine ak (aI (λM s=>[(0,Pt c),(5,Pt b1),(7,.at (.arr 7 Tr) r2),(8,.eq (.map (some z4))),(9,Pt b5),(10,I s)]) (λM s=>[.obj c 135 (aS a0 z_a0),.obj b1 110 (.agg (.pair (I y6.1) (I y6.2.1))),.obj b5 110 (.agg (.pair (I (-1:Int)) (I 0))),.inv z_a0 (bX k a0),.inv z4 (ta y6.2.2)]) (gd k r2 y6) k () y6.2.1 (λ_=>rfl) h (SE.fin [1,0,2,3,4] ⟨rfl,rfl,rfl,rfl,rfl,rfl,trivial⟩ rfl) (λn M s h=>?_));unfold gd at h;refine aj (aH (Z:=Unit) (α:=Bool) (λJ y=>[(0,Pt c),(5,Pt b1),(7,.at (.arr 7 Tr) r2),(8,.eq (.map (some z4))),(9,Pt b5),(10,I s),(30,.eq (.bool y))]) (λJ y=>[.obj c 135 (aS a0 z_a0),.obj b1 110 (.agg (.pair (I y6.1) (I y6.2.1))),.obj b5 110 (.agg (.pair (I (-1:Int)) (I 0))),.inv z_a0 (bX k a0),.inv z4 (ta y6.2.2)]) h (λK h=>?_) (λJ y h=>?_))
   .refine cL ?_;refine dm ?_;refine db (nv rfl) ?_;refine tP rfl rfl rfl (bA rfl) ⟨rfl,trivial⟩ (λhb=>?_) (λhb=>?_)
    .replace h:=fg (tJ hb) h;refine cF rfl rfl rfl rfl rfl (bA rfl) ⟨rfl,rfl,trivial⟩ ?_;obtain⟨UR,Up,h⟩:=aa h;refine cF rfl rfl rfl rfl rfl (eg rfl Up) ⟨rfl,rfl,rfl,trivial⟩ ?_;refine cF rfl rfl rfl rfl rfl (aD rfl xR) ⟨rfl,rfl,trivial⟩ ?_;refine gR 1 rfl rfl rfl rfl rfl rfl (ax rfl cN ny rfl) ⟨rfl,rfl,trivial⟩ ?_;obtain⟨UQ,Uo,h⟩:=aa h;refine cF rfl rfl rfl rfl rfl (cg (t:=Tr) rfl I8 i8 Uo) ⟨rfl,rfl,rfl,trivial⟩ ?_;refine df d4 ?_;obtain⟨Uy,Un,h⟩:=aa h;refine gb (cg (t:=Ti) rfl BY cN Un) ?_;refine ga (ap (t:=Ti) rfl cN rfl) ?_;refine gb (kp rfl) ?_;refine pt (nl ?_);exact jz ((),decide (0≤Uy)) h [0,1,2,3,4]
    .replace h:=cY (tK hb) h;iterate 5 refine dg ?_
     refine df d4 ?_;iterate 3 refine gn ?_
     refine pf (nl ?_);exact jz ((),false) h [0,1,2,3,4]
   .refine cv h (λh=>?_) (λh=>?_)
    .refine sk (ak (ab (mq ?_)));obtain⟨Ux,Um,h⟩:=aa h;refine jb (eg rfl Um) ?_;refine aq (aE (bn ?_));exact jz ((),Ux) h [0,1,2,3,4]
    .refine xa ?_;exact jz ((),s) h [0,1,2,3,4]
  .refine aj (sr (mq ?_));refine jb (hH rfl) ?_;refine nt (ci h (λh=>?_) (λh=>?_))
   .refine sr (mq ?_);refine fr 1 ?_;refine lo jE ?_;refine fr 2 ?_;refine lo jE ?_;refine eG (eE (t:=bM) (x:=(y6.1,y6.2.1)) 36 rfl (.agg (.pair .int .int)) trivial rfl) ?_;obtain⟨Va,Us,h⟩:=aa h;refine eG (eE (t:=bM) (x:=((-1:Int),0)) 37 rfl (.agg (.pair .int .int)) trivial rfl) ?_;refine fr 4 ?_;refine aP rfl rfl (qK (K:=kT) (V:=kT) (t:=(y6.1,y6.2.1)) (n:=((-1:Int),0)) (l:=y6.2.2) (λ_ _ _ h=>mQ h) rfl E4 ml (λ_ _ _ h=>mQ h) (qz (am Us)) (qy _) qA) ⟨rfl,rfl,rfl,trivial⟩ ?_;refine nt (sr (mq ?_));refine aq (nt (rx (br (bJ ?_))));refine bQ (SE.fin (Γ':=[(6,_)]) [0,3,4,1,2] ⟨rfl,trivial⟩ rfl) ?_;obtain rfl:=hR _ h;exact aK z4 [.eq (.map (some z4))] 3 ⟨rfl,trivial⟩ rfl
   .refine sk (aj (rC ?_));refine bO rfl rfl rfl (bA rfl) ⟨rfl,trivial⟩ ?_;refine bO rfl rfl rfl (bA rfl) ⟨rfl,trivial⟩ ?_;obtain⟨UP,zz,h⟩:=aa h;refine bO rfl rfl rfl (eg rfl zz) ⟨rfl,rfl,trivial⟩ ?_;obtain⟨Uw,qt,h⟩:=aa h;refine bO rfl rfl rfl (cg (t:=Tr) rfl I8 i8 qt) ⟨rfl,rfl,trivial⟩ ?_;refine bO rfl rfl rfl (ap (t:=Tr) rfl i8 rfl) ⟨rfl,trivial⟩ ?_;refine bO rfl rfl rfl (aD rfl xR) ⟨rfl,trivial⟩ ?_;refine gZ 1 rfl rfl rfl rfl (ax rfl cN ny rfl) ⟨rfl,trivial⟩ ?_;refine bO rfl rfl rfl (bA rfl) ⟨rfl,trivial⟩ ?_;obtain⟨Uu,mw,h⟩:=aa h;refine bO rfl rfl rfl (eg rfl mw) ⟨rfl,rfl,trivial⟩ ?_;obtain⟨j,Ut,h⟩:=aa h;refine gZ 0 rfl rfl rfl rfl (av [.tmp 39,.tmp 43,.tmp 45,.tmp 47] rfl rfl MP rfl (nG k a0 c z_a0 Uw y6.1 Uu j Ut)) ⟨rfl,rfl,rfl,rfl,trivial⟩ ?_;refine bO rfl rfl rfl (bA rfl) ⟨rfl,trivial⟩ ?_;obtain⟨u,mc,h⟩:=aa h;refine bO rfl rfl rfl (eg rfl mc) ⟨rfl,rfl,trivial⟩ ?_;refine bO rfl rfl rfl (dZ [(0,.tmp 48,_),(1,.tmp 50,_)] rfl GT sV BV (jF ⟨rfl,rfl,trivial⟩) rfl) ⟨rfl,rfl,trivial⟩ ?_;refine LU (NT 110 (.agg (.pair (I 0) (I 0)))) (λ_=>rfl) rfl rfl rfl (bi rfl sV Ab) trivial ?_;refine ve 14 [true,true,true,true,true,true,true,true,true,true,true,true,true,true] [] [] [] rfl (by kernel_rfl) (by kernel_rfl) (by kernel_rfl) d4 (λvs hv hB=>?_);obtain⟨w0,U7,rfl,UH⟩:=ay hv;obtain⟨w1,U6,rfl,UG⟩:=ay UH;obtain⟨w2,U2,rfl,UF⟩:=ay UG;obtain⟨w3,U1,rfl,UE⟩:=ay UF;obtain⟨w4,U0,rfl,UD⟩:=ay UE;obtain⟨w5,UZ,rfl,UC⟩:=ay UD;obtain⟨w6,UY,rfl,UB⟩:=ay UC;obtain⟨w7,UX,rfl,UA⟩:=ay UB;obtain⟨w8,UW,rfl,Uz⟩:=ay UA;obtain⟨w9,UO,rfl,gw⟩:=ay Uz;obtain⟨UV,UN,rfl,Y⟩:=ay gw;obtain⟨UU,UM,rfl,X⟩:=ay Y;obtain⟨UT,UL,rfl,U⟩:=ay X;obtain⟨US,UK,rfl,Q⟩:=ay U;obtain rfl:=qU Q;obtain⟨E,rfl⟩:=NS hB.2.2.2.2.2.2.2.2.2.2.2.2.2.1;refine⟨[0,1,2,3,4,5],[.obj c 135 (aS a0 z_a0),.obj b1 110 (.agg (.pair (I y6.1) (I y6.2.1))),.obj b5 110 (.agg (.pair (I (-1:Int)) (I 0))),.inv z_a0 (bX k a0),.inv z4 (ta y6.2.2),.obj E 110 (.agg (.pair (I 0) (I 0)))],by kernel_rfl,by decide,?_⟩;refine rz 5 rfl ?_;refine sQ rfl rfl (aN rfl jE trivial rfl rfl) ⟨rfl,rfl,trivial⟩ (by kernel_rfl) ?_;refine yl ?_;refine bQ (SE.fin (Γ':=[(0,Pt c),(5,Pt b1),(7,.at (.arr 7 Tr) r2),(8,.eq (.map (some z4))),(9,Pt b5),(11,Pt E)]) (Δ':=[.obj E 110 (.agg (.pair (I j) (I u))),.obj c 135 (aS a0 z_a0),.obj b1 110 (.agg (.pair (I y6.1) (I y6.2.1))),.obj b5 110 (.agg (.pair (I (-1:Int)) (I 0))),.inv z_a0 (bX k a0),.inv z4 (ta y6.2.2)]) [0,1,2,3,4,5] ⟨rfl,rfl,rfl,rfl,rfl,rfl,trivial⟩ rfl) ?_;refine tn (sr (mq ?_));refine fr 2 ?_;refine lo jE ?_;refine fr 1 ?_;refine lo jE ?_;refine eG (eE (t:=bM) (x:=(y6.1,y6.2.1)) 53 rfl (.agg (.pair .int .int)) trivial rfl) ?_;obtain⟨U8,Ur,h⟩:=aa h;refine eG (eE (t:=bM) (x:=(j,u)) 54 rfl (.agg (.pair .int .int)) trivial rfl) ?_;refine fr 5 ?_;refine aP rfl rfl (qK (K:=kT) (V:=kT) (t:=(y6.1,y6.2.1)) (n:=(j,u)) (l:=y6.2.2) (λ_ _ _ h=>mQ h) rfl E4 ml (λ_ _ _ h=>mQ h) (qz (am Ur)) (qy _) qA) ⟨rfl,rfl,rfl,trivial⟩ ?_
    refine nt (ab (fr 1 ?_));refine lo jE ?_;refine fr 2 ?_;refine aP rfl rfl (aN rfl jE trivial rfl rfl) ⟨rfl,rfl,trivial⟩ ?_;refine aE (bn ?_);exact jz ((),(j,u,Bm y6.2.2 (y6.1,y6.2.1) (j,u))) h [3,0,4,5,2]
 .
  refine an ?_;exact jz ((),(x8.1,x8.2.1,x8.2.2)) h [0,1,2,3,4]
def kE(k:Nat)(r7:(List (fx×fx))):Nat->(Int×Int×(List Int))->Option (List Int)
 |0,_=>none
 |n+1,c=>
  (cJ (yK (c.1,c.2.1))).bind λ_=>
  if¬((nf r7 (c.1,c.2.1) (0,0))=((-1:Int),0)) then((cJ (yK (c.1,c.2.1))).bind λ_=>
  (cJ (bP (length c.2.2+length [(nf r7 (c.1,c.2.1) (0,0)).1]))).bind λ_=>
  (cJ (yK (c.1,c.2.1))).bind λ_=>
  kE k r7 n ((nf r7 (c.1,c.2.1) (0,0)).1,(nf r7 (c.1,c.2.1) (0,0)).2,c.2.2++[(nf r7 (c.1,c.2.1) (0,0)).1])) else(some c.2.2)
def sb(k:Nat)(a0:ae)(a1:(List Int))(a2:Int):Option ((List Int)×Int):=
 (jI k a0 a1 [a2] ([]:(List Int)) ([]:(List Int))).bind λr2=>
 fP r2.1 (if¬(r2.2.2=0) then(some (([]:(List Int)),r2.2.2)) else(none)) (λq3=>if¬(r2.2.2=0) then(some (([]:(List Int)),r2.2.2)) else((im k q3 r2.2.1 a2).bind λr5=>
 if r5 < 0 then(some (([]:(List Int)),11)) else((ll k q3 r2.2.1 (a2,r5)).bind λr7=>
 ((kE k r7 k (a2,r5,[a2])):Option ((List Int))).bind λc=>
 (jZ k c).bind λe=>
 some (e,0))))
theorem xA(k:Nat)(a0:ae)(a1:(List Int))(a2:Int)(r:(List Int)×Int)(h:sb k a0 a1 a2=some r):
 bV (dH Tryz.prog) 38 [.rep au a0,.rep Tl a1,I a2] [] (λ_:Unit=>(bD [.rep Tl r.1,I r.2],[])):=by
 unfold sb at h
 replace h:=aY h
 refine bV.of 64 Tryz.func38 rfl Tryz.ntmps38 rfl λS w0=>?_
 refine sr ?_
 refine bx λb1=>?_
 refine cq ?_
 refine cq ?_
 refine nt ?_
 refine sr ?_
 refine lo g7 ?_
 iterate 2 refine mq ?_
 refine ja (bg (t:=Ti) [(.tmp 19,_)] [a2] rfl rfl dM (.cons rfl .int .nil) rfl rfl) ?_
 obtain⟨r2,Y,h⟩:=aa h
 have u:=lP k a0 a1 [a2] ([]:(List Int)) ([]:(List Int)) r2 Y
 rcases hr:r2.1 with _ |q3
 .
  rw [hr] at h u;replace h:=uP h;refine aJ (Δ:=[]) (F:=_) (λ_ _ _=>ag rfl _) rfl rfl (bI (N:=[(.tmp 17,.rep au a0),(.tmp 18,.rep Tl a1),(.tmp 20,.rep Tl [a2]),(.const (.slice none 0 0),.eq (.slice none 0 0)),(.const (.slice none 0 0),.eq (.slice none 0 0))]) (aR [.tmp 17,.tmp 18,.tmp 20,.const (.slice none 0 0),.const (.slice none 0 0)] rfl rfl zJ rfl u) λ_ _ _ hn=>⟨hn.1,hn.2.1,hn.2.2.1,(aC (t:=Tl) (x:=([]:(List Int))) .nil rfl rfl hn.2.2.2.1),(aC (t:=Tl) (x:=([]:(List Int))) .nil rfl rfl hn.2.2.2.2.1),trivial⟩) ⟨rfl,rfl,rfl,rfl,rfl,trivial⟩ λ_=>?_;refine mq ?_;refine xr ?_;refine xr ?_;refine xr ?_;refine aq ?_;refine aq ?_;refine aq (nt (aj (sr ?_)));refine mq ?_;refine jb (fh rfl) ?_;refine nt (cn h (λh=>?_) (λh=>?_))
  .refine sr (mq ?_);refine cq ?_;refine aq (nt (rx ?_));refine bQ (eE (t:=Tl) (x:=([]:(List Int))) 6 rfl .nil rfl rfl) ?_;cases h;exact rb
  .cases h
 .
  rw [hr] at h u;replace h:=uO h;refine aJ (Δ:=[]) (F:=_) (λ_ _ _=>ag rfl _) rfl rfl (bI (N:=[(.tmp 17,.rep au a0),(.tmp 18,.rep Tl a1),(.tmp 20,.rep Tl [a2]),(.const (.slice none 0 0),.eq (.slice none 0 0)),(.const (.slice none 0 0),.eq (.slice none 0 0))]) (aR [.tmp 17,.tmp 18,.tmp 20,.const (.slice none 0 0),.const (.slice none 0 0)] rfl rfl zJ rfl u) λ_ _ _ hn=>⟨hn.1,hn.2.1,hn.2.2.1,(aC (t:=Tl) (x:=([]:(List Int))) .nil rfl rfl hn.2.2.2.1),(aC (t:=Tl) (x:=([]:(List Int))) .nil rfl rfl hn.2.2.2.2.1),trivial⟩) ⟨rfl,rfl,rfl,rfl,rfl,trivial⟩ λz4=>?_;refine mq ?_;refine xr ?_;refine xr ?_;refine xr ?_;refine aq ?_;refine aq ?_;refine aq (nt (aj (sr ?_)));refine mq ?_;refine jb (fh rfl) ?_;refine nt (cn h (λh=>?_) (λh=>?_))
  .refine sr (mq ?_);refine cq ?_;refine aq (nt (rx ?_));refine bQ (eE (t:=Tl) (x:=([]:(List Int))) 6 rfl .nil rfl rfl) ?_;cases h;exact rb
  .refine sk (sr ?_);iterate 3 refine mq ?_
   obtain⟨r5,X,h⟩:=aa h;refine fr 1 ?_;refine fr 1 ?_;refine aJ (Δ:=[_,_]) (F:=_) (λ_ _ _=>ag rfl _) rfl rfl (aR [.tmp 28,.tmp 29,.tmp 30] rfl rfl Qy rfl (li k q3 z4.1 z4.2 r2.2.1 a2 r5 X)) ⟨rfl,rfl,rfl,trivial⟩ λ_=>?_;refine aq (nt (aj (sr ?_)));refine mq ?_;refine jb (bF rfl) ?_;refine nt (ci h (λh=>?_) (λh=>?_))
   .refine sr (cq ?_);refine cq (nt (rx ?_));refine bQ (eE (t:=Tl) (x:=([]:(List Int))) 6 rfl .nil rfl rfl) ?_;cases h;exact rb
   .refine sk (sr ?_);iterate 2 refine mq ?_
    refine jb (dZ [(0,.tmp 34,_),(1,.tmp 35,_)] rfl GT sV BV (jF ⟨rfl,rfl,trivial⟩) rfl) ?_;refine aX rfl rfl rfl (bi rfl sV Ab) trivial λb6=>?_;refine aP rfl rfl (aN rfl jE trivial rfl rfl) ⟨rfl,rfl,trivial⟩ ?_;refine nt (sr ?_);iterate 2 refine mq ?_
    refine lo jE ?_;obtain⟨r7,U,h⟩:=aa h;refine fr 2 ?_;refine fr 2 ?_;refine aJ (Δ:=[_,_]) (F:=_) (λ_ _ _=>ag rfl _) rfl rfl (bI (N:=[(.tmp 37,.eq (.pointer (some ⟨z4.1,0,none⟩))),(.tmp 38,.eq (.int .u8 r2.2.1)),(.tmp 39,.agg (.pair (I a2) (I r5)))]) (aR [.tmp 37,.tmp 38,.tmp 39] rfl rfl SO rfl (qR k q3 z4.1 z4.2 r2.2.1 (a2,r5) r7 U)) λ_ _ _ hn=>⟨hn.1,hn.2.1,(aC (t:=bM) (x:=(a2,r5)) (.agg (.pair .int .int)) trivial rfl hn.2.2.1),trivial⟩) ⟨rfl,rfl,rfl,trivial⟩ λz8=>?_;refine aq (nt (sr ?_));refine mq ?_;refine aX rfl rfl rfl (jg (t:=Ti) [(.tmp 41,_)] [a2] rfl rfl dM (.cons rfl .int .nil) rfl rfl) ⟨rfl,trivial⟩ λv9=>?_;refine aq (nt ?_);refine aH (Z:=Value) (α:=(List Int)) (λj s=>[(13,.eq (.map (some z8))),(14,.eq j)]) (λj s=>[.sl j 3 Ti s,.inv z4.2 (bX k q3),.inv z8 (ta r7)]) h (λK h=>?_) (λj s h=>?_)
    .refine sr (ja (dZ [(0,.const (.int .i64 (-1)),_)] rfl GT sV BV (jF ⟨rfl,trivial⟩) rfl) ?_);refine aX rfl rfl rfl (bi rfl sV Ab) trivial λmc=>?_;refine aP rfl rfl (aN rfl jE trivial rfl rfl) ⟨rfl,rfl,trivial⟩ ?_;refine nt (ak (aI (λe c=>[(12,Pt b6),(13,.eq (.map (some z8))),(14,.eq e.1),(15,.eq (.pointer (some ⟨e.2,0,none⟩)))]) (λe c=>[.obj b6 110 (.agg (.pair (I c.1) (I c.2.1))),.sl e.1 3 Ti c.2.2,.obj e.2 110 (.agg (.pair (I (-1:Int)) (I 0))),.inv z4.2 (bX k q3),.inv z8 (ta r7)]) (kE k r7) k (v9,mc) (a2,r5,[a2]) (λ_=>rfl) h (SE.fin [5,1,0,4,2] ⟨rfl,rfl,rfl,rfl,trivial⟩ rfl) (λn e c h=>?_)));unfold kE at h;refine aj (aj (cL ?_));refine dm ?_;refine ea 0 (ax rfl jE (tC) rfl) ?_;obtain⟨zz,J,h⟩:=aa h;refine eb 4 (bI (N:=[(.tmp 44,.eq (.map (some z8))),(.tmp 45,.agg (.pair (I c.1) (I c.2.1)))]) (rP (K:=kT) (V:=kT) (t:=(c.1,c.2.1)) (l:=r7) (λn=>.rep bM n) tV rfl E4 (0,0) tU ml (λ_ _ _ h=>mQ h) (qz (am J)) (qy _) qA) λ_ _ _ hn=>⟨hn.1,(aC (t:=bM) (x:=(c.1,c.2.1)) (.agg (.pair .int .int)) trivial rfl hn.2.1),trivial⟩) ?_;refine ea 2 (ax rfl jE (tC) rfl) ?_;refine df d4 ?_;refine eG (eE (t:=bM) (x:=((-1:Int),0)) 47 rfl (.agg (.pair .int .int)) trivial rfl) ?_;refine jb (NZ rfl Qu rfl) ?_;refine nt (cn h (λh=>?_) (λh=>?_))
     .refine sk (aj (ak (ab ?_)));iterate 2 refine mq ?_
      refine lo jE ?_;refine eG (eE (t:=bM) (x:=(c.1,c.2.1)) 54 rfl (.agg (.pair .int .int)) trivial rfl) ?_;obtain⟨u16,E,h⟩:=aa h;refine fr 4 ?_;refine kb (bI (N:=[(.tmp 53,.eq (.map (some z8))),(.tmp 54,.rep bM (c.1,c.2.1))]) (rP (K:=kT) (V:=kT) (t:=(c.1,c.2.1)) (l:=r7) (λn=>.rep bM n) tV rfl E4 (0,0) tU ml (λ_ _ _ h=>mQ h) (qz (am E)) (qy _) qA) λ_ _ _ hn=>⟨hn.1,hn.2.1,trivial⟩) ?_;refine ja (J0 rfl TD rfl cN (λ_=>rfl) rfl rfl rfl) ?_;refine ja (bg (t:=Ti) [(.tmp 56,_)] [(nf r7 (c.1,c.2.1) (0,0)).1] rfl rfl dM (.cons rfl .int .nil) rfl rfl) ?_;obtain⟨qt,D,h⟩:=aa h;refine fr 2 ?_;refine dY rfl rfl rfl (cp rfl rfl dM (am D)) ⟨rfl,rfl,trivial⟩ λO=>?_;refine aq (aE (aQ (tn (aj (sr ?_)))));refine fr 3 ?_;refine lo jE ?_;refine nt (ab (aX rfl rfl rfl (bi rfl sV Ab) trivial λgw=>?_));refine aP rfl rfl (aN rfl jE trivial rfl rfl) ⟨rfl,rfl,trivial⟩ ?_;refine nt (ab (mq ?_));refine fr 4 ?_;refine lo jE ?_;refine eG (eE (t:=bM) (x:=(c.1,c.2.1)) 50 rfl (.agg (.pair .int .int)) trivial rfl) ?_;obtain⟨mw,y,h⟩:=aa h;refine fr 4 ?_;refine kb (bI (N:=[(.tmp 49,.eq (.map (some z8))),(.tmp 50,.rep bM (c.1,c.2.1))]) (rP (K:=kT) (V:=kT) (t:=(c.1,c.2.1)) (l:=r7) (λn=>.rep bM n) tV rfl E4 (0,0) tU ml (λ_ _ _ h=>mQ h) (qz (am y)) (qy _) qA) λ_ _ _ hn=>⟨hn.1,hn.2.1,trivial⟩) ?_;refine fr 1 ?_;refine aP rfl rfl (aN rfl jE rfl rfl rfl) ⟨rfl,rfl,trivial⟩ ?_;refine nl (bQ (ir (a:=.rep bM (nf r7 (c.1,c.2.1) (0,0))) (a':=.agg (.pair (I ((nf r7 (c.1,c.2.1) (0,0)).1)) (I ((nf r7 (c.1,c.2.1) (0,0)).2)))) (AE.trans D8 (AE.agg (AE.trans Ap (AE.pair AE.int AE.int))))) ?_);exact jz ((O,gw),((nf r7 (c.1,c.2.1) (0,0)).1,(nf r7 (c.1,c.2.1) (0,0)).2,c.2.2++[(nf r7 (c.1,c.2.1) (0,0)).1])) h [0,4,2,5,1]
     .refine xa ?_;exact jz (e.1,c.2.2) h [1,3,4]
    .refine sr (mq ?_);refine fr 2 ?_;refine aP rfl rfl (G6 rfl rfl E4) ⟨rfl,trivial⟩ ?_;refine nt (sr (mq ?_));obtain⟨Q,M,h⟩:=aa h;refine fr 1 ?_;refine ka (av [.tmp 61] rfl rfl SN rfl (pK k s j Q M)) ?_;refine nt (sr (mq ?_));refine aq ?_;refine cq (nt (aA ?_));refine bQ (gY [6,14,61,63] ⟨rfl,rfl,rfl,rfl,trivial⟩) ?_;cases h;exact rb
def kD(k:Nat)(a1:Int)(r3:(Option ae)×(List Int)×Int)(q4:ae):Nat->((List Int)×Int)->Option (List Int)
 |0,_=>none
 |n+1,y8=>
  if y8.2 < (r3.2.1.length:Int) then((((aM r3.2.1 y8.2).bind λh=>
  (im k q4 h a1).bind λc=>
  if 0≤c then((cJ (bP (length y8.1+length [c]))).bind λ_=>
  some (y8.1++[c])) else(some y8.1)):Option ((List Int))).bind λj=>
  (ck (y8.2+1)).bind λe=>
  kD k a1 r3 q4 n (j,e)) else(some y8.1)
def sa(k:Nat)(a0:ae)(a1:Int):Option (fx×Int):=
 (iD k a0 [a1] ([]:(List Int)) ([]:(List Int))).bind λr3=>
 fP r3.1 (if¬(r3.2.2=0) then(some ((0,0),r3.2.2)) else(none)) (λq4=>if¬(r3.2.2=0) then(some ((0,0),r3.2.2)) else(((kD k a1 r3 q4 k (([]:(List Int)),0)):Option ((List Int))).bind λx6=>
 if(x6.length:Int)=0 then(some ((0,0),11)) else((lK k x6).bind λe=>
 (nS k x6).bind λc=>
 some ((e,c),0))))
theorem xy(k:Nat)(a0:ae)(a1:Int)(r:fx×Int)(h:sa k a0 a1=some r):
 bV (dH Tryz.prog) 42 [.rep au a0,I a1] [] (λ_:Unit=>(bD [.rep bM r.1,I r.2],[])):=by
 unfold sa at h
 replace h:=aY h
 refine bV.of 51 Tryz.func42 rfl Tryz.ntmps42 rfl λS w0=>?_
 refine sr ?_
 refine bx λb1=>?_
 refine aX rfl rfl rfl (bi rfl AB QZ) trivial λb2=>?_
 refine cq ?_
 refine nt ?_
 refine sr ?_
 refine fr 1 ?_
 refine lo g7 ?_
 refine mq ?_
 refine ja (bg (t:=Ti) [(.tmp 15,_)] [a1] rfl rfl dM (.cons rfl .int .nil) rfl rfl) ?_
 obtain⟨r3,Y,h⟩:=aa h
 have s:=kB k a0 [a1] ([]:(List Int)) ([]:(List Int)) r3 Y
 rcases hr:r3.1 with _ |q4
 .
  rw [hr] at h s;replace h:=uP h;refine aJ (Δ:=[]) (F:=_) (λ_ _ _=>ag rfl _) rfl rfl (bI (N:=[(.tmp 14,.rep au a0),(.tmp 16,.rep Tl [a1]),(.const (.slice none 0 0),.eq (.slice none 0 0)),(.const (.slice none 0 0),.eq (.slice none 0 0))]) (aR [.tmp 14,.tmp 16,.const (.slice none 0 0),.const (.slice none 0 0)] rfl rfl zI rfl s) λ_ _ _ hn=>⟨hn.1,hn.2.1,(aC (t:=Tl) (x:=([]:(List Int))) .nil rfl rfl hn.2.2.1),(aC (t:=Tl) (x:=([]:(List Int))) .nil rfl rfl hn.2.2.2.1),trivial⟩) ⟨rfl,rfl,rfl,rfl,trivial⟩ λ_=>?_;refine mq ?_;refine xr ?_;refine xr ?_;refine xr ?_;refine aq ?_;refine aq ?_;refine aq (nt (aj (sr ?_)));refine mq ?_;refine jb (fh rfl) ?_;refine nt (cn h (λh=>?_) (λh=>?_))
  .refine sr (cf rfl (dZ [] rfl GR AB Aa (jF trivial) rfl) trivial ?_);refine mq ?_;refine fr 1 ?_;refine aP rfl rfl (aN rfl vv trivial rfl rfl) ⟨rfl,rfl,trivial⟩ ?_;refine aq (nt (rx ?_));refine bQ (ir (a:=.agg (.pair (I 0) (I 0))) (a':=.rep bM (0,0)) (jv (.agg (.pair .int .int)))) ?_;cases h;exact aK () [.rep bM (0,0),_] 0 ⟨⟨_,_,_,_,_,rfl,(.head _),vv,(tC),rfl⟩,rfl,trivial⟩ rfl
  .cases h
 .
  rw [hr] at h s;replace h:=uO h;refine aJ (Δ:=[]) (F:=_) (λ_ _ _=>ag rfl _) rfl rfl (bI (N:=[(.tmp 14,.rep au a0),(.tmp 16,.rep Tl [a1]),(.const (.slice none 0 0),.eq (.slice none 0 0)),(.const (.slice none 0 0),.eq (.slice none 0 0))]) (aR [.tmp 14,.tmp 16,.const (.slice none 0 0),.const (.slice none 0 0)] rfl rfl zI rfl s) λ_ _ _ hn=>⟨hn.1,hn.2.1,(aC (t:=Tl) (x:=([]:(List Int))) .nil rfl rfl hn.2.2.1),(aC (t:=Tl) (x:=([]:(List Int))) .nil rfl rfl hn.2.2.2.1),trivial⟩) ⟨rfl,rfl,rfl,rfl,trivial⟩ λz5=>?_;refine mq ?_;refine xr ?_;refine xr ?_;refine xr ?_;refine aq ?_;refine aq ?_;refine aq (nt (aj (sr ?_)));refine mq ?_;refine jb (fh rfl) ?_;refine nt (cn h (λh=>?_) (λh=>?_))
  .refine sr (cf rfl (dZ [] rfl GR AB Aa (jF trivial) rfl) trivial ?_);refine mq ?_;refine fr 3 ?_;refine aP rfl rfl (aN rfl vv trivial rfl rfl) ⟨rfl,rfl,trivial⟩ ?_;refine aq (nt (rx ?_));refine bQ (ir (a:=.agg (.pair (I 0) (I 0))) (a':=.rep bM (0,0)) (jv (.agg (.pair .int .int)))) ?_;cases h;exact aK () [.rep bM (0,0),_] 0 ⟨⟨_,_,_,_,_,rfl,(.head _),vv,(tC),rfl⟩,rfl,trivial⟩ rfl
  .refine sk (sr (cq (nt ?_)));refine aH (Z:=Value) (α:=(List Int)) (λz7 x6=>[(4,Pt b2),(9,.eq z7)]) (λz7 x6=>[.obj b2 67 (.agg (.pair (I 0) (I 0))),.sl z7 3 Ti x6,.inv z5.2 (bX k q4)]) h (λK h=>?_) (λz7 x6 h=>?_)
   .refine sr (mq ?_);refine ol vL ?_;refine ff rfl ?_;refine nt (ak (jd (SE.nil 3 Ti) ?_));refine aI (λz9 y8=>[(1,I a1),(4,Pt b2),(6,.eq (.pointer (some ⟨z5.1,0,none⟩))),(9,.eq z9),(25,.rep (.slice (.int .u8)) r3.2.1),(26,I (r3.2.1.length:Int)),(27,I y8.2)]) (λz9 y8=>[.obj b2 67 (.agg (.pair (I 0) (I 0))),.obj z5.1 135 (aS q4 z5.2),.sl z9 3 Ti y8.1,.inv z5.2 (bX k q4)]) (kD k a1 r3 q4) k (.slice none 0 0) (([]:(List Int)),0) (λ_=>rfl) h (SE.fin [4,1,0,2] ⟨rfl,rfl,rfl,rfl,rfl,rfl,rfl,trivial⟩ rfl) (λn z9 y8 h=>?_);unfold kD at h;refine sr (jb (bF rfl) ?_);refine nt (aj (ci h (λh=>?_) (λh=>?_)))
    .refine sk (aH (Z:=Value) (α:=(List Int)) (λc e=>[(1,I a1),(4,Pt b2),(6,.eq (.pointer (some ⟨z5.1,0,none⟩))),(9,.eq c),(25,.rep (.slice (.int .u8)) r3.2.1),(26,I (r3.2.1.length:Int)),(27,I y8.2)]) (λc e=>[.obj b2 67 (.agg (.pair (I 0) (I 0))),.obj z5.1 135 (aS q4 z5.2),.sl c 3 Ti e,.inv z5.2 (bX k q4)]) h (λK h=>?_) (λc e h=>?_))
     .refine ak (sr ?_);obtain⟨U,D,h⟩:=aa h;refine jb (aU (t:=(.int .u8)) rfl vL l7 D) ?_;refine ja (ap (t:=(.int .u8)) rfl l7 rfl) ?_;refine aq (nt (sr ?_));iterate 3 refine mq ?_
      obtain⟨u,O,h⟩:=aa h;refine fr 3 ?_;refine fr 2 ?_;refine aJ (Δ:=[_,_]) (F:=_) (λ_ _ _=>ag rfl _) rfl rfl (aR [.tmp 31,.tmp 32,.tmp 33] rfl rfl Qy rfl (li k q4 z5.1 z5.2 U a1 u O)) ⟨rfl,rfl,rfl,trivial⟩ λ_=>?_;refine aq (nt (sr ?_));refine mq ?_;refine jb (kp rfl) ?_;refine nt (ci h (λh=>?_) (λh=>?_))
      .refine ab ?_;iterate 2 refine mq ?_
       refine ja (bg (t:=Ti) [(.tmp 38,_)] [u] rfl rfl dM (.cons rfl .int .nil) rfl rfl) ?_;obtain⟨gw,E,h⟩:=aa h;refine fr 3 ?_;refine dY rfl rfl rfl (cp rfl rfl dM (am E)) ⟨rfl,rfl,trivial⟩ λX=>?_;refine aq (aE (bn ?_));exact jz (X,y8.1++[u]) h [3,1,0,2]
      .refine be (bn ?_);exact jz (z9,y8.1) h [2,0,3,1]
     .refine ab ?_;obtain⟨Q,y,h⟩:=aa h;refine jb (bB rfl y) ?_;refine mq (nl ?_);exact jz (c,(e,Q)) h [0,1,2,3]
    .refine xa ?_;exact jz (z9,y8.1) h [0,2,3]
   .refine aj (sr (mq ?_));refine fr 1 ?_;refine ka (mA rfl rfl iq) ?_;refine jb (hH rfl) ?_;refine nt (ci h (λh=>?_) (λh=>?_))
    .refine sr (cf rfl (dZ [] rfl GR AB Aa (jF trivial) rfl) trivial ?_);refine fr 1 ?_;refine aP rfl rfl (aN rfl vv trivial rfl rfl) ⟨rfl,rfl,trivial⟩ ?_;refine cq (nt (rx ?_));refine bQ (ir (a:=.agg (.pair (I 0) (I 0))) (a':=.rep bM (0,0)) (jv (.agg (.pair .int .int)))) ?_;cases h;exact aK () [.rep bM (0,0),_] 0 ⟨⟨_,_,_,_,_,rfl,(.head _),vv,(tC),rfl⟩,rfl,trivial⟩ rfl
    .refine sk (sr (mq ?_));obtain⟨l,M,h⟩:=aa h;refine ka (lB (N:=[(.tmp 46,.eq z7)]) (av [.tmp 46] rfl rfl QD rfl (nR k x6 l M)) (λ_ _ _ hv hn=>⟨(lend hn.1 hv),trivial⟩) (λ_=>⟨rfl,ox⟩)) ?_;refine mq ?_;obtain⟨j,J,h⟩:=aa h;refine ka (lB (N:=[(.tmp 48,.eq z7)]) (av [.tmp 48] rfl rfl SL rfl (t3 k x6 j J)) (λ_ _ _ hv hn=>⟨(lend hn.1 hv),trivial⟩) (λ_=>⟨rfl,ox⟩)) ?_;refine jb (dZ [(0,.tmp 47,_),(1,.tmp 49,_)] rfl GR AB Aa (jF ⟨rfl,rfl,trivial⟩) rfl) ?_;refine fr 1 ?_;refine aP rfl rfl (aN rfl vv trivial rfl rfl) ⟨rfl,rfl,trivial⟩ ?_;refine cq (nt (aA ?_));refine bQ (ir (a:=.agg (.pair (I l) (I j))) (a':=.rep bM (l,j)) (jv (.agg (.pair .int .int)))) ?_;cases h;exact aK () [.rep bM (l,j),_] 0 ⟨⟨_,_,_,_,_,rfl,(.head _),vv,(tC),rfl⟩,rfl,trivial⟩ rfl
def jA(k:Nat)(a1:Int)(a2:Int)(y4:(List (List (List Int)))×Int)(h:(List Int)):Nat->((List Int)×Int)->Option (List Int)
 |0,_=>none
 |n+1,c=>
  if c.2 < (h.length:Int) then((((aM h c.2).bind λe=>
  ((if y4.2 < a1 then(some true) else((eR k a2 e).bind λs=>
  some (!s))):Option (Bool)).bind λl=>
  if l=true then((cJ (bP (length c.1+length [e]))).bind λ_=>
  some (c.1++[e])) else(some c.1)):Option ((List Int))).bind λr=>
  (ck (c.2+1)).bind λj=>
  jA k a1 a2 y4 h n (r,j)) else(some c.1)
def jB(k:Nat)(a1:Int)(a2:Int)(y4:(List (List (List Int)))×Int)(x8:(List (List Int))):Nat->((List (List Int))×Int)->Option (List (List Int))
 |0,_=>none
 |n+1,c=>
  if c.2 < (x8.length:Int) then((((aM x8 c.2).bind λj=>
  ((jA k a1 a2 y4 j k (([]:(List Int)),0)):Option ((List Int))).bind λe=>
  (cJ (bP (length c.1+length [e]))).bind λ_=>
  some (c.1++[e])):Option ((List (List Int)))).bind λl=>
  (ck (c.2+1)).bind λh=>
  jB k a1 a2 y4 x8 n (l,h)) else(some c.1)
def jC(k:Nat)(a0:ae)(a1:Int)(a2:Int):Nat->((List (List (List Int)))×Int)->Option (List (List (List Int)))
 |0,_=>none
 |n+1,y4=>
  if y4.2 < (a0.2.2.2.2.1.length:Int) then((((aM a0.2.2.2.2.1 y4.2).bind λx8=>
  ((jB k a1 a2 y4 x8 k (([]:(List (List Int))),0)):Option ((List (List Int)))).bind λx9=>
  (cJ (bP (length y4.1+length [x9]))).bind λ_=>
  some (y4.1++[x9])):Option ((List (List (List Int))))).bind λx6=>
  (ck (y4.2+1)).bind λc=>
  jC k a0 a1 a2 n (x6,c)) else(some y4.1)
def m9(k:Nat)(a0:ae)(a1:Int)(a2:Int):Option (Option ae):=
 ((jC k a0 a1 a2 k (([]:(List (List (List Int)))),0)):Option ((List (List (List Int))))).bind λx2=>
 (iO k (a0.1,a0.2.1,a0.2.2.1,a0.2.2.2.1,x2,a0.2.2.2.2.2)).bind λc=>
 fP c (some none) (λe=>some (some e))
theorem vE(k:Nat)(a0:ae)(a1:Int)(a2:Int)(r:(Option ae))(h:m9 k a0 a1 a2=some r):
 dk Tryz.prog 85 [.rep au a0,I a1,.eq (.int .u8 a2)] [] (λz:Nat×Nat=>(bD [JS r z.1],JR r λq=>qs q z.1 z.2 k)):=by
 unfold m9 at h
 replace h:=aY h
 refine dk.of 69 Tryz.func85 rfl Tryz.ntmps85 rfl λS w0=>?_
 refine sr ?_
 refine bx λb1=>?_
 refine cq ?_
 refine nt ?_
 refine sr ?_
 refine fl eK ?_
 refine lo lG ?_
 refine mq ?_
 refine ja (pN [.tmp 19] [] [(.int .u8 a2)] [] rfl rfl rfl) ?_
 refine aq ?_
 refine aq ?_
 refine nt ?_
 refine sr ?_
 refine fl eK ?_
 refine aP rfl rfl (aN rfl lG rfl rfl rfl) ⟨rfl,rfl,trivial⟩ ?_
 refine nt ?_
 refine aH (Z:=Value) (α:=(List (List (List Int)))) (λz3 x2=>[(3,Pt b1)]) (λz3 x2=>[.obj b1 25 (.agg (.pair (I a0.1) (.pair (I a0.2.1) (.pair (I a0.2.2.1) (.pair (I a0.2.2.2.1) (.pair (.eq z3) (Rs aZ a0.2.2.2.2.2))))))),.sl z3 36 (.slice Tl) x2]) h (λK h=>?_) (λz3 x2 h=>?_)
 .
  refine sr (mq ?_);refine ol AA ?_;refine ff rfl ?_;refine nt (ak (jd (SE.nil 36 (.slice Tl)) ?_));refine dQ 1 rfl ?_;refine jd (ir (a:=.agg (.pair (.rep Ti a0.1) (.pair (.rep Ti a0.2.1) (.pair (.rep Ti a0.2.2.1) (.pair (.rep Ti a0.2.2.2.1) (.pair (.eq (.slice none 0 0)) (Rs aZ a0.2.2.2.2.2))))))) (a':=.agg (.pair (I a0.1) (.pair (I a0.2.1) (.pair (I a0.2.2.1) (.pair (I a0.2.2.2.1) (.pair (.eq (.slice none 0 0)) (Rs aZ a0.2.2.2.2.2))))))) (AE.agg (AE.pair AE.int (AE.pair AE.int (AE.pair AE.int (AE.pair AE.int AE.rfl)))))) ?_;refine aI (λz5 y4=>[(1,I a1),(3,Pt b1),(8,.eq (.func (.func 97) #[(.int .u8 a2)] #[])),(22,.rep (.slice (.slice Tl)) a0.2.2.2.2.1),(23,I (a0.2.2.2.2.1.length:Int)),(24,I y4.2)]) (λz5 y4=>[.obj b1 25 (.agg (.pair (I a0.1) (.pair (I a0.2.1) (.pair (I a0.2.2.1) (.pair (I a0.2.2.2.1) (.pair (.eq z5) (Rs aZ a0.2.2.2.2.2))))))),.sl z5 36 (.slice Tl) y4.1]) (jC k a0 a1 a2) k (.slice none 0 0) (([]:(List (List (List Int)))),0) (λ_=>rfl) h (SE.fin [0,1] ⟨rfl,rfl,rfl,rfl,rfl,rfl,trivial⟩ rfl) (λn z5 y4 h=>?_);unfold jC at h;refine sr (jb (bF rfl) ?_);refine nt (aj (ci h (λh=>?_) (λh=>?_)))
  .refine sk (aH (Z:=Value) (α:=(List (List (List Int)))) (λz7 x6=>[(1,I a1),(3,Pt b1),(8,.eq (.func (.func 97) #[(.int .u8 a2)] #[])),(22,.rep (.slice (.slice Tl)) a0.2.2.2.2.1),(23,I (a0.2.2.2.2.1.length:Int)),(24,I y4.2)]) (λz7 x6=>[.obj b1 25 (.agg (.pair (I a0.1) (.pair (I a0.2.1) (.pair (I a0.2.2.1) (.pair (I a0.2.2.2.1) (.pair (.eq z7) (Rs aZ a0.2.2.2.2.2))))))),.sl z7 36 (.slice Tl) x6]) h (λK h=>?_) (λz7 x6 h=>?_))
   .refine ak (sr (mq ?_));obtain⟨x8,UD,h⟩:=aa h;refine jb (aU (t:=(.slice Tl)) rfl AA yN UD) ?_;refine ja (ap (t:=(.slice Tl)) rfl yN rfl) ?_;refine aq ?_;refine aq (nt (sr ?_));refine cq (nt ?_);refine aH (Z:=Value) (α:=(List (List Int))) (λQ x9=>[(1,I a1),(3,Pt b1),(8,.eq (.func (.func 97) #[(.int .u8 a2)] #[])),(11,.eq Q),(22,.rep (.slice (.slice Tl)) a0.2.2.2.2.1),(23,I (a0.2.2.2.2.1.length:Int)),(24,I y4.2)]) (λQ x9=>[.obj b1 25 (.agg (.pair (I a0.1) (.pair (I a0.2.1) (.pair (I a0.2.2.1) (.pair (I a0.2.2.2.1) (.pair (.eq z5) (Rs aZ a0.2.2.2.2.2))))))),.sl z5 36 (.slice Tl) y4.1,.sl Q 28 Tl x9]) h (λK h=>?_) (λQ x9 h=>?_)
    .refine sr (mq ?_);refine ol qp ?_;refine ff rfl ?_;refine nt (ak (jd (SE.nil 28 Tl) ?_));refine aI (λe c=>[(1,I a1),(3,Pt b1),(8,.eq (.func (.func 97) #[(.int .u8 a2)] #[])),(9,I y4.2),(11,.eq e),(22,.rep (.slice (.slice Tl)) a0.2.2.2.2.1),(23,I (a0.2.2.2.2.1.length:Int)),(24,I y4.2),(29,.rep (.slice Tl) x8),(30,I (x8.length:Int)),(31,I c.2)]) (λe c=>[.obj b1 25 (.agg (.pair (I a0.1) (.pair (I a0.2.1) (.pair (I a0.2.2.1) (.pair (I a0.2.2.2.1) (.pair (.eq z5) (Rs aZ a0.2.2.2.2.2))))))),.sl z5 36 (.slice Tl) y4.1,.sl e 28 Tl c.1]) (jB k a1 a2 y4 x8) k (.slice none 0 0) (([]:(List (List Int))),0) (λ_=>rfl) h (SE.fin [1,2,0] ⟨rfl,rfl,rfl,rfl,rfl,rfl,rfl,rfl,rfl,rfl,rfl,trivial⟩ rfl) (λn e c h=>?_);unfold jB at h;refine sr (jb (bF rfl) ?_);refine nt (aj (ci h (λh=>?_) (λh=>?_)))
     .refine sk (aH (Z:=Value) (α:=(List (List Int))) (λE X=>[(1,I a1),(3,Pt b1),(8,.eq (.func (.func 97) #[(.int .u8 a2)] #[])),(9,I y4.2),(11,.eq E),(22,.rep (.slice (.slice Tl)) a0.2.2.2.2.1),(23,I (a0.2.2.2.2.1.length:Int)),(24,I y4.2),(29,.rep (.slice Tl) x8),(30,I (x8.length:Int)),(31,I c.2)]) (λE X=>[.obj b1 25 (.agg (.pair (I a0.1) (.pair (I a0.2.1) (.pair (I a0.2.2.1) (.pair (I a0.2.2.2.1) (.pair (.eq z5) (Rs aZ a0.2.2.2.2.2))))))),.sl z5 36 (.slice Tl) y4.1,.sl E 28 Tl X]) h (λK h=>?_) (λE X h=>?_))
      .refine ak (sr ?_);obtain⟨u,Up,h⟩:=aa h;refine jb (aU (t:=Tl) rfl qp gi Up) ?_;refine ja (ap (t:=Tl) rfl gi rfl) ?_;refine aq (nt (sr ?_));refine cq (nt ?_);refine aH (Z:=Value) (α:=(List Int)) (λO M=>[(1,I a1),(3,Pt b1),(8,.eq (.func (.func 97) #[(.int .u8 a2)] #[])),(9,I y4.2),(11,.eq e),(14,.eq O),(22,.rep (.slice (.slice Tl)) a0.2.2.2.2.1),(23,I (a0.2.2.2.2.1.length:Int)),(24,I y4.2),(29,.rep (.slice Tl) x8),(30,I (x8.length:Int)),(31,I c.2)]) (λO M=>[.obj b1 25 (.agg (.pair (I a0.1) (.pair (I a0.2.1) (.pair (I a0.2.2.1) (.pair (I a0.2.2.2.1) (.pair (.eq z5) (Rs aZ a0.2.2.2.2.2))))))),.sl z5 36 (.slice Tl) y4.1,.sl e 28 Tl c.1,.sl O 3 Ti M]) h (λK h=>?_) (λO M h=>?_)
       .refine sr (mq ?_);refine ol iq ?_;refine ff rfl ?_;refine nt (ak (jd (SE.nil 3 Ti) ?_));refine aI (λl j=>[(1,I a1),(3,Pt b1),(8,.eq (.func (.func 97) #[(.int .u8 a2)] #[])),(9,I y4.2),(11,.eq e),(14,.eq l),(22,.rep (.slice (.slice Tl)) a0.2.2.2.2.1),(23,I (a0.2.2.2.2.1.length:Int)),(24,I y4.2),(29,.rep (.slice Tl) x8),(30,I (x8.length:Int)),(31,I c.2),(35,.rep Tl u),(36,I (u.length:Int)),(37,I j.2)]) (λl j=>[.obj b1 25 (.agg (.pair (I a0.1) (.pair (I a0.2.1) (.pair (I a0.2.2.1) (.pair (I a0.2.2.2.1) (.pair (.eq z5) (Rs aZ a0.2.2.2.2.2))))))),.sl z5 36 (.slice Tl) y4.1,.sl e 28 Tl c.1,.sl l 3 Ti j.1]) (jA k a1 a2 y4 u) k (.slice none 0 0) (([]:(List Int)),0) (λ_=>rfl) h (SE.fin [1,2,3,0] ⟨rfl,rfl,rfl,rfl,rfl,rfl,rfl,rfl,rfl,rfl,rfl,rfl,rfl,rfl,rfl,trivial⟩ rfl) (λn l j h=>?_);unfold jA at h;refine sr (jb (bF rfl) ?_);refine nt (aj (ci h (λh=>?_) (λh=>?_)))
        .refine sk (aH (Z:=Value) (α:=(List Int)) (λD U=>[(1,I a1),(3,Pt b1),(8,.eq (.func (.func 97) #[(.int .u8 a2)] #[])),(9,I y4.2),(11,.eq e),(14,.eq D),(22,.rep (.slice (.slice Tl)) a0.2.2.2.2.1),(23,I (a0.2.2.2.2.1.length:Int)),(24,I y4.2),(29,.rep (.slice Tl) x8),(30,I (x8.length:Int)),(31,I c.2),(35,.rep Tl u),(36,I (u.length:Int)),(37,I j.2)]) (λD U=>[.obj b1 25 (.agg (.pair (I a0.1) (.pair (I a0.2.1) (.pair (I a0.2.2.1) (.pair (I a0.2.2.2.1) (.pair (.eq z5) (Rs aZ a0.2.2.2.2.2))))))),.sl z5 36 (.slice Tl) y4.1,.sl e 28 Tl c.1,.sl D 3 Ti U]) h (λK h=>?_) (λD U h=>?_))
         .refine ak (sr ?_);obtain⟨J,Uo,h⟩:=aa h;refine jb (aU (t:=Ti) rfl iq cN Uo) ?_;refine ja (ap (t:=Ti) rfl cN rfl) ?_;refine aq (nt ?_);refine aH (Z:=Unit) (α:=Bool) (λmc gw=>[(1,I a1),(3,Pt b1),(8,.eq (.func (.func 97) #[(.int .u8 a2)] #[])),(9,I y4.2),(11,.eq e),(14,.eq l),(16,I J),(22,.rep (.slice (.slice Tl)) a0.2.2.2.2.1),(23,I (a0.2.2.2.2.1.length:Int)),(24,I y4.2),(29,.rep (.slice Tl) x8),(30,I (x8.length:Int)),(31,I c.2),(35,.rep Tl u),(36,I (u.length:Int)),(37,I j.2),(49,.eq (.bool gw))]) (λmc gw=>[.obj b1 25 (.agg (.pair (I a0.1) (.pair (I a0.2.1) (.pair (I a0.2.2.1) (.pair (I a0.2.2.2.1) (.pair (.eq z5) (Rs aZ a0.2.2.2.2.2))))))),.sl z5 36 (.slice Tl) y4.1,.sl e 28 Tl c.1,.sl l 3 Ti j.1]) h (λK h=>?_) (λmc gw h=>?_)
          .refine ab ?_;iterate 2 refine mq ?_
           refine jb (bF rfl) ?_;refine mq ?_;refine cK (s:=44) rfl (λhb=>?_) (λhb=>?_)
           .replace h:=fg (tJ hb) h;iterate 4 refine gn ?_
            refine pt (nl ?_);exact jz ((),true) h [0,1,2,3]
           .replace h:=cY (tK hb) h;refine gm ?_;refine gm ?_;obtain⟨qt,Uw,h⟩:=aa h;refine gb (mV (fs:=[(.int .u8 a2)]) (cs:=[]) (ags:=[I J]) [.tmp 46] rfl rfl H9 rfl (gx k a2 J qt Uw)) ?_;refine ga (iz rfl) ?_;refine pf (nl ?_);exact jz ((), !qt) h [0,1,2,3]
          .refine cv h (λh=>?_) (λh=>?_)
           .refine ab ?_;iterate 2 refine mq ?_
            refine ja (bg (t:=Ti) [(.tmp 51,_)] [J] rfl rfl dM (.cons rfl .int .nil) rfl rfl) ?_;obtain⟨UF,Ut,h⟩:=aa h;refine fr 3 ?_;refine dY rfl rfl rfl (cp rfl rfl dM (am Ut)) ⟨rfl,rfl,trivial⟩ λUC=>?_;refine aq (aE (bn ?_));exact jz (UC,j.1++[J]) h [1,2,3,0]
           .refine be (bn ?_);exact jz (l,j.1) h [0,1,2,3]
         .refine ab ?_;obtain⟨Uz,Un,h⟩:=aa h;refine jb (bB rfl Un) ?_;refine mq (nl ?_);exact jz (D,(U,Uz)) h [0,1,2,3]
        .refine xa ?_;exact jz (l,j.1) h [0,1,2,3]
       .refine ab ?_;iterate 2 refine mq ?_
        refine fr 3 ?_;refine eG (gY [14,56] ⟨rfl,rfl,trivial⟩) ?_;refine ja (bg (t:=Tl) [(.tmp 56,_)] [M] rfl rfl my (.cons rfl .rep .nil) rfl rfl) ?_;obtain⟨UE,Us,h⟩:=aa h;refine fr 2 ?_;refine dY rfl rfl rfl (cp rfl rfl my (am Us)) ⟨rfl,rfl,trivial⟩ λUB=>?_;refine aq (aE (bn ?_));exact jz (UB,c.1++[M]) h [1,2,0]
      .refine ab ?_;obtain⟨Uy,Um,h⟩:=aa h;refine jb (bB rfl Um) ?_;refine mq (nl ?_);exact jz (E,(X,Uy)) h [0,1,2]
     .refine xa ?_;exact jz (e,c.1) h [0,1,2]
    .refine ab (fl eK ?_);refine lo lG ?_;refine mq ?_;refine fr 2 ?_;refine eG (gY [11,62] ⟨rfl,rfl,trivial⟩) ?_;refine ja (bg (t:=(.slice Tl)) [(.tmp 62,_)] [x9] rfl rfl AU (.cons rfl .rep .nil) rfl rfl) ?_;obtain⟨u32,Ur,h⟩:=aa h;refine fr 1 ?_;refine dY rfl rfl rfl (cp rfl rfl AU (am Ur)) ⟨rfl,rfl,trivial⟩ λUA=>?_;refine fl eK ?_;refine sR λo34=>?_;refine fr 1 ?_;refine aP rfl rfl (aN rfl lG o34 rfl rfl) ⟨rfl,rfl,trivial⟩ ?_;refine aE (bn ?_);exact jz (UA,y4.1++[x9]) h [0,1]
   .refine ab ?_;obtain⟨Ux,zz,h⟩:=aa h;refine jb (bB rfl zz) ?_;refine mq (nl ?_);exact jz (z7,(x6,Ux)) h [0,1]
  .refine xa ?_;exact jz (z5,y4.1) h [0,1]
 .
  refine sr (fr 1 ?_);refine eG (nn (off:=4) [] trivial rfl rfl) ?_;refine lo g7 ?_;obtain⟨mw,Uu,h⟩:=aa h;have y:=nA k (a0.1,a0.2.1,a0.2.2.1,a0.2.2.2.1,x2,a0.2.2.2.2.2) mw Uu;rcases hr:mw with _ |UG
  .rw [hr] at h y;replace h:=uP h;refine aJ (Δ:=[]) (F:=_) (λ_ _ _=>ag rfl _) rfl rfl (bI (N:=[(.tmp 67,.agg (.pair (I a0.1) (.pair (I a0.2.1) (.pair (I a0.2.2.1) (.pair (I a0.2.2.2.1) (.pair (.rep (.slice (.slice Tl)) x2) (Rs aZ a0.2.2.2.2.2)))))))]) (av [.tmp 67] rfl rfl K1 rfl y) λ_ _ _ hn=>⟨(aC (t:=au) (x:=(a0.1,a0.2.1,a0.2.2.1,a0.2.2.2.1,x2,a0.2.2.2.2.2)) (.agg (.pair .int (.pair .int (.pair .int (.pair .int (.pair .rep .rep)))))) trivial rfl hn.1),trivial⟩) ⟨rfl,trivial⟩ λ_=>?_;refine aq (nt (aA ?_));cases h;exact aK (0,0) [.eq (.pointer none)] 0 ⟨rfl,trivial⟩ rfl
  .rw [hr] at h y;replace h:=uO h;refine aJ (Δ:=[]) (F:=_) (λ_ _ _=>ag rfl _) rfl rfl (bI (N:=[(.tmp 67,.agg (.pair (I a0.1) (.pair (I a0.2.1) (.pair (I a0.2.2.1) (.pair (I a0.2.2.2.1) (.pair (.rep (.slice (.slice Tl)) x2) (Rs aZ a0.2.2.2.2.2)))))))]) (av [.tmp 67] rfl rfl K1 rfl y) λ_ _ _ hn=>⟨(aC (t:=au) (x:=(a0.1,a0.2.1,a0.2.2.1,a0.2.2.2.1,x2,a0.2.2.2.2.2)) (.agg (.pair .int (.pair .int (.pair .int (.pair .int (.pair .rep .rep)))))) trivial rfl hn.1),trivial⟩) ⟨rfl,trivial⟩ λY=>?_;refine aq (nt (aA ?_));cases h;exact aK (Y.1,Y.2) [.eq (.pointer (some ⟨Y.1,0,none⟩))] 2 ⟨rfl,trivial⟩ rfl
def eT(k:Nat)(a0:ae)(r1:(List (List Int)))(y5:Int):Nat->Int->Option (Except Bool Unit)
 |0,_=>none
 |n+1,c=>
  if c < a0.1 then((((aM r1 y5).bind λs=>
  (aM s c).bind λr=>
  if r < 0 then((ck (y5+1)).bind λl=>
  (aM r1 l).bind λj=>
  (aM j c).bind λh=>
  some (decide (h=0))) else(some false)):Option (Bool)).bind λu=>
  if u=true then(some (.error true)) else((ck (c+1)).bind λe=>
  eT k a0 r1 y5 n e)) else(some (.ok ()))
def eU(k:Nat)(a0:ae)(r1:(List (List Int))):Nat->Int->Option (Except Bool Unit)
 |0,_=>none
 |n+1,y5=>
  if y5 < (a0.2.2.2.2.1.length:Int) then(bE (α:=Unit) ((ck (y5+1)).bind λx9=>
  (aM r1 x9).bind λh=>
  (aM r1 y5).bind λc=>
  (cJ (xg h/\xg c)).bind λ_=>
  if h=c then(some (.ok ())) else(eT k a0 r1 y5 k 0)) (λe=>some (.error e)) λ_=>
  (ck (y5+1)).bind λj=>
  eU k a0 r1 n j) else(some (.ok ()))
def iP(k:Nat)(a0:ae)(a1:Int)(a2:Int):Option Bool:=
 (lI k a0 a1).bind λr1=>
 bE (α:=Unit) (eU k a0 r1 k a2) (some) λ_=>
 some false
theorem og(k:Nat)(a0:ae)(c z_a0:Nat)(a1:Int)(a2:Int)(r:Bool)(h:iP k a0 a1 a2=some r):
 bV (dH Tryz.prog) 87 [Pt c,.eq (.int .u8 a1),I a2] [.obj c 135 (aS a0 z_a0),.inv z_a0 (bX k a0)] (λ_:Unit=>(bD [.eq (.bool r)],[.obj c 135 (aS a0 z_a0),.inv z_a0 (bX k a0)])):=by
 unfold iP at h
 replace h:=aY h
 refine bV.of 56 Tryz.func87 rfl Tryz.ntmps87 rfl λS w0=>?_
 refine sr ?_
 refine cq ?_
 refine nt ?_
 refine sr ?_
 iterate 2 refine mq ?_
 obtain⟨r1,Um,h⟩:=aa h
 have Un:=o0 k a0 c z_a0 a1 r1 Um
 refine fr 1 ?_
 refine fr 1 ?_
 refine aJ (Δ:=[_,_]) (F:=_) (λ_ _ _=>ag rfl _) rfl rfl (aR [.tmp 10,.tmp 11] rfl rfl EJ rfl Un) ⟨rfl,rfl,trivial⟩ λ_=>?_
 refine aX rfl rfl rfl (bi rfl Fz Is) trivial λb2=>?_
 refine aP rfl rfl (aN rfl Gi rfl rfl rfl) ⟨rfl,rfl,trivial⟩ ?_
 refine eG (jr (t:=(.arr 7 Tr)) (x:=r1) [7] .rep ⟨rfl,trivial⟩) ?_
 refine nt ?_
 refine dB (Z:=Unit) (α:=Unit) (λz4 x3=>[]) (λz4 x3=>[.obj c 135 (aS a0 z_a0),.inv z_a0 (bX k a0)]) (λe=>e=r) h (λe h=>Option.some.inj h) (λK hR h=>?_) (λz4 x3 h=>?_)
 .
  refine sr (mq ?_);refine aq (nt (ak ?_));refine aI (λz6 y5=>[(0,Pt c),(7,.at (.arr 7 Tr) r1),(8,I y5)]) (λz6 y5=>[.obj c 135 (aS a0 z_a0),.inv z_a0 (bX k a0)]) (eU k a0 r1) k () a2 (λ_=>rfl) h (SE.fin [0,1] ⟨rfl,rfl,rfl,trivial⟩ rfl) (λn z6 y5 h=>?_);unfold eU at h;refine aj (sr ?_);iterate 2 refine mq ?_
  refine ja (cM rfl) ?_;refine fl gK ?_;refine fl eK ?_;refine lo lG ?_;refine ol AA ?_;refine jb (bF rfl) ?_;refine nt (ci h (λh=>?_) (λh=>?_))
  .refine sk (dB (Z:=Unit) (α:=Unit) (λz8 x7=>[(0,Pt c),(7,.at (.arr 7 Tr) r1),(8,I y5)]) (λz8 x7=>[.obj c 135 (aS a0 z_a0),.inv z_a0 (bX k a0)]) (λe=>e=r) h (λe h=>hR e h) (λK hR h=>?_) (λz8 x7 h=>?_))
   .refine ak (aj (aj (cL ?_)));refine dm ?_;obtain⟨x9,zz,h⟩:=aa h;refine db (bB rfl zz) ?_;obtain⟨Uu,gw,h⟩:=aa h;refine db (cg (t:=Tr) rfl I8 i8 gw) ?_;refine da (ap (t:=Tr) rfl i8 rfl) ?_;refine dm ?_;obtain⟨Ut,Y,h⟩:=aa h;refine db (cg (t:=Tr) rfl I8 i8 Y) ?_;refine da (ap (t:=Tr) rfl i8 rfl) ?_;refine df d4 ?_;obtain⟨Uw,l,h⟩:=aa h;refine jb (G5 rfl (am l).1 (am l).2) ?_;refine nt (ci h (λh=>?_) (λh=>?_))
    .refine gQ (cy (dF (an ?_)));exact jz ((),()) h [0,1]
    .refine sk (sr (mq ?_));refine ja (cM rfl) ?_;refine fl gK ?_;refine fl gW ?_;refine lo cN ?_;refine ff rfl ?_;refine nt (ak (aI (λD j=>[(0,Pt c),(7,.at (.arr 7 Tr) r1),(8,I y5),(36,I a0.1),(37,I j)]) (λD j=>[.obj c 135 (aS a0 z_a0),.inv z_a0 (bX k a0)]) (eT k a0 r1 y5) k () 0 (λ_=>rfl) h (SE.fin [0,1] ⟨rfl,rfl,rfl,rfl,rfl,trivial⟩ rfl) (λn D j h=>?_)));unfold eT at h;refine sr (jb (bF rfl) ?_);refine nt (aj (ci h (λh=>?_) (λh=>?_)))
     .refine sk (aj (ak (sr (mq ?_))));refine aq (nt ?_);refine aH (Z:=Unit) (α:=Bool) (λy u=>[(0,Pt c),(7,.at (.arr 7 Tr) r1),(8,I y5),(36,I a0.1),(37,I j),(54,.eq (.bool u))]) (λy u=>[.obj c 135 (aS a0 z_a0),.inv z_a0 (bX k a0)]) h (λK h=>?_) (λy u h=>?_)
      .refine ab ?_;iterate 2 refine mq ?_
       obtain⟨Us,X,h⟩:=aa h;refine jb (cg (t:=Tr) rfl I8 i8 X) ?_;obtain⟨Ur,U,h⟩:=aa h;refine jb (cg (t:=Ti) rfl BY cN U) ?_;refine ja (ap (t:=Ti) rfl cN rfl) ?_;refine jb (bF rfl) ?_;refine mq ?_;refine cK (s:=46) rfl (λhb=>?_) (λhb=>?_)
       .replace h:=fg (tJ hb) h;refine gm ?_;obtain⟨Up,Q,h⟩:=aa h;refine gb (bB rfl Q) ?_;refine gm ?_;obtain⟨Uo,O,h⟩:=aa h;refine gb (cg (t:=Tr) rfl I8 i8 O) ?_;obtain⟨qt,M,h⟩:=aa h;refine gb (cg (t:=Ti) rfl BY cN M) ?_;refine ga (ap (t:=Ti) rfl cN rfl) ?_;refine gb (hH rfl) ?_;refine pt (nl ?_);exact jz ((),decide (qt=0)) h [0,1]
       .replace h:=cY (tK hb) h;iterate 7 refine gn ?_
        refine pf (nl ?_);exact jz ((),false) h [0,1]
      .refine cv h (λh=>?_) (λh=>?_)
       .refine sr (cq (nt (aA (br (bJ (br (bJ (bC ?_))))))));obtain rfl:=hR _ h;exact aK () [_] 2 ⟨rfl,trivial⟩ rfl
       .refine be (aQ (tn (ab ?_)));obtain⟨mw,J,h⟩:=aa h;refine jb (bB rfl J) ?_;refine mq (nl ?_);exact jz ((),mw) h [0,1]
     .refine gQ (cy (cy (dF (bn ?_))));exact jz ((),()) h [0,1]
   .refine ab (mq ?_);obtain⟨mc,E,h⟩:=aa h;refine jb (bB rfl E) ?_;refine aq (nl ?_);exact jz ((),mc) h [0,1]
  .refine xa ?_;exact jz ((),()) h [0,1]
 .
  refine sr (cq (nt (aA ?_)));cases h;exact aK () [_] 2 ⟨rfl,trivial⟩ rfl
def nc(k:Nat)(a0:Int)(a1:ae)(a2:Int):Option Bool:=
 (iP k a1 a0 a2).bind λr1=>
 some r1
theorem ti(k:Nat)(a0:Int)(a1:ae)(c z_a1 j:Nat)(a2:Int)(e:Nat)(r:Bool)(h:nc k a0 a1 a2=some r):
 bV (dH Tryz.prog) 86 [.eq (.int .u8 a0),Pt j,Pt e] [.obj c 135 (aS a1 z_a1),.inv z_a1 (bX k a1),.obj j 77 (Pt c),.obj e 3 (I a2)] (λ_:Unit=>(bD [.eq (.bool r)],[.obj c 135 (aS a1 z_a1),.inv z_a1 (bX k a1),.obj j 77 (Pt c),.obj e 3 (I a2)])):=by
 unfold nc at h
 replace h:=aY h
 refine bV.of 9 Tryz.func86 rfl Tryz.ntmps86 rfl λS w0=>?_
 refine sr ?_
 refine cq ?_
 refine nt ?_
 refine sr ?_
 refine fr 2 ?_
 refine lo Jt ?_
 refine mq ?_
 refine fr 3 ?_
 refine lo cN ?_
 obtain⟨r1,l,h⟩:=aa h
 have n:=og k a1 c z_a1 a0 a2 r1 l
 refine fr 3 ?_
 refine fr 3 ?_
 refine aJ (Δ:=[_,_]) (F:=_) (λ_ _ _=>ag rfl _) rfl rfl (aR [.tmp 5,.tmp 6,.tmp 7] rfl rfl SJ rfl n) ⟨rfl,rfl,rfl,trivial⟩ λ_=>?_
 refine aq ?_
 refine nt ?_
 refine aA ?_
 refine bQ (SE.fin (Γ':=[(4,_)]) [0,1,3,2] ⟨rfl,trivial⟩ rfl) ?_
 cases h
 exact aK () [_] 4 ⟨rfl,trivial⟩ rfl
def eO(k:Nat)(a0:(List Int))(a1_0:ae)(a1_1:Int):Nat->Int->Option (Except Int Unit)
 |0,_=>none
 |n+1,y3=>
  if y3 < (a0.length:Int) then((aM a0 y3).bind λx5=>
  (nc k x5 a1_0 a1_1).bind λr6=>
  if r6=true then(some (.error y3)) else((ck (y3+1)).bind λx7=>
  eO k a0 a1_0 a1_1 n x7)) else(some (.ok ()))
def iL(k:Nat)(a0:(List Int))(a1_0:ae)(a1_1:Int):Option Int:=
 bE (α:=Unit) (eO k a0 a1_0 a1_1 k 0) (some) λ_=>
 some (-1:Int)
theorem nT(k:Nat)(a0:(List Int))(a1_0:ae)(b_a1_0 z_a1_0 c_a1_0:Nat)(a1_1:Int)(c_a1_1:Nat)(r:Int)(h:iL k a0 a1_0 a1_1=some r):
 bV (dH Tryz.prog) 108 [.rep (.slice (.int .u8)) a0,.eq (.func (.func 86) #[] #[(Pv c_a1_0),(Pv c_a1_1)])] [.obj b_a1_0 135 (aS a1_0 z_a1_0),.inv z_a1_0 (bX k a1_0),.obj c_a1_0 77 (Pt b_a1_0),.obj c_a1_1 3 (I a1_1)] (λ_:Unit=>(bD [I r],[.obj b_a1_0 135 (aS a1_0 z_a1_0),.inv z_a1_0 (bX k a1_0),.obj c_a1_0 77 (Pt b_a1_0),.obj c_a1_1 3 (I a1_1)])):=by
 unfold iL at h
 replace h:=aY h
 refine bV.of 19 Tryz.func108 rfl Tryz.ntmps108 rfl λS w0=>?_
 refine sr ?_
 refine cq ?_
 refine nt ?_
 refine dB (Z:=Unit) (α:=Unit) (λz2 x1=>[]) (λz2 x1=>[.obj b_a1_0 135 (aS a1_0 z_a1_0),.inv z_a1_0 (bX k a1_0),.obj c_a1_0 77 (Pt b_a1_0),.obj c_a1_1 3 (I a1_1)]) (λe=>e=r) h (λe h=>Option.some.inj h) (λK hR h=>?_) (λz2 x1 h=>?_)
 .
  refine sr (mq ?_);refine ol vL ?_;refine ff rfl ?_;refine nt (ak (aI (λz4 y3=>[(0,.rep (.slice (.int .u8)) a0),(1,.eq (.func (.func 86) #[] #[(Pv c_a1_0),(Pv c_a1_1)])),(7,I (a0.length:Int)),(8,I y3)]) (λz4 y3=>[.obj c_a1_0 77 (Pt b_a1_0),.obj b_a1_0 135 (aS a1_0 z_a1_0),.obj c_a1_1 3 (I a1_1),.inv z_a1_0 (bX k a1_0)]) (eO k a0 a1_0 a1_1) k () 0 (λ_=>rfl) h (SE.fin [2,0,3,1] ⟨rfl,rfl,rfl,rfl,trivial⟩ rfl) (λn z4 y3 h=>?_)));unfold eO at h;refine sr (jb (bF rfl) ?_);refine nt (aj (ci h (λh=>?_) (λh=>?_)))
  .refine sk (aj (ak (sr (mq ?_))));refine aq (nt (sr ?_));iterate 3 refine mq ?_
   obtain⟨x5,j,h⟩:=aa h;refine jb (aU (t:=(.int .u8)) rfl vL l7 j) ?_;refine ja (ap (t:=(.int .u8)) rfl l7 rfl) ?_;obtain⟨r6,l,h⟩:=aa h;refine fr 2 ?_;refine fr 1 ?_;refine fr 3 ?_;refine fr 3 ?_;refine aJ (Δ:=[_,_,_,_]) (F:=_) (λ_ _ _=>ag rfl _) rfl rfl (qL (fs:=[]) (cs:=[(Pv c_a1_0),(Pv c_a1_1)]) (ags:=[.eq (.int .u8 x5)]) [.tmp 15] rfl rfl SK rfl (ti k x5 a1_0 b_a1_0 z_a1_0 c_a1_0 a1_1 c_a1_1 r6 l)) ⟨rfl,rfl,trivial⟩ λ_=>?_;refine nt (cv h (λh=>?_) (λh=>?_))
   .refine sr (mq ?_);refine aq (nt (aA (br (bJ (bC ?_)))));obtain rfl:=hR _ h;exact aK () [_] 4 ⟨rfl,trivial⟩ rfl
   .refine be (aQ (tn (ab ?_)));obtain⟨x7,c,h⟩:=aa h;refine jb (bB rfl c) ?_;refine mq (nl ?_);exact jz ((),x7) h [2,0,3,1]
  .refine xa ?_;exact jz ((),()) h [1,3,0,2]
 .
  refine sr (cq (nt (aA ?_)));cases h;exact aK () [_] 4 ⟨rfl,trivial⟩ rfl
def eP(k:Nat)(a0:(List Int))(a1_0:ae)(a1_1:Int):Option Bool:=
 (iL k a0 a1_0 a1_1).bind λr1=>
 some (decide (0≤r1))
theorem mt(k:Nat)(a0:(List Int))(a1_0:ae)(b_a1_0 z_a1_0 c_a1_0:Nat)(a1_1:Int)(c_a1_1:Nat)(r:Bool)(h:eP k a0 a1_0 a1_1=some r):
 bV (dH Tryz.prog) 88 [.rep (.slice (.int .u8)) a0,.eq (.func (.func 86) #[] #[(Pv c_a1_0),(Pv c_a1_1)])] [.obj b_a1_0 135 (aS a1_0 z_a1_0),.inv z_a1_0 (bX k a1_0),.obj c_a1_0 77 (Pt b_a1_0),.obj c_a1_1 3 (I a1_1)] (λ_:Unit=>(bD [.eq (.bool r)],[.obj b_a1_0 135 (aS a1_0 z_a1_0),.inv z_a1_0 (bX k a1_0),.obj c_a1_0 77 (Pt b_a1_0),.obj c_a1_1 3 (I a1_1)])):=by
 unfold eP at h
 replace h:=aY h
 refine bV.of 9 Tryz.func88 rfl Tryz.ntmps88 rfl λS w0=>?_
 refine sr ?_
 refine cq ?_
 refine nt ?_
 refine sr ?_
 iterate 2 refine mq ?_
 obtain⟨r1,c,h⟩:=aa h
 have e:=nT k a0 a1_0 b_a1_0 z_a1_0 c_a1_0 a1_1 c_a1_1 r1 c
 refine fr 3 ?_
 refine fr 3 ?_
 refine fr 3 ?_
 refine fr 3 ?_
 refine aJ (Δ:=[_,_,_,_]) (F:=_) (λ_ _ _=>ag rfl _) rfl rfl (aR [.tmp 5,.tmp 6] rfl rfl QQ rfl e) ⟨rfl,rfl,trivial⟩ λ_=>?_
 refine jb (kp rfl) ?_
 refine aq ?_
 refine nt ?_
 refine aA ?_
 cases h
 exact aK () [_] 4 ⟨rfl,trivial⟩ rfl
def pZ(k:Nat)(a0:ae)(a1:Int):Option ((List Int)×Int):=
 (iD k a0 ([]:(List Int)) [a1] ([]:(List Int))).bind λr3=>
 fP r3.1 (if¬(r3.2.2=0) then(some (([]:(List Int)),r3.2.2)) else(none)) (λq4=>if¬(r3.2.2=0) then(some (([]:(List Int)),r3.2.2)) else((jK k (qC (λ(c:(List Int)) (e:Int)=>
  (m9 k a0 a1 e).bind λr=>
  fP r (none) (λs=>(eP k r3.2.1 s a1).bind λn=>
  if¬(n=true) then((cJ (bP (length c+length [e]))).bind λ_=>
  some (c++[e],true)) else(some (c,true))))) a0.1 (([]:(List Int)),false)).bind λh=>
 if h.2=true then(none) else((pW k h.1).bind λl=>
 (d5 k l).bind λj=>
 some (j,0))))
theorem vG(k:Nat)(a0:ae)(a1:Int)(r:(List Int)×Int)(h:pZ k a0 a1=some r):
 bV (dH Tryz.prog) 45 [.rep au a0,I a1] [] (λ_:Unit=>(bD [.rep Tl r.1,I r.2],[])):=by
 unfold pZ at h
 replace h:=aY h
 refine vf 44 Tryz.func45 rfl Tryz.ntmps45 rfl λS w0=>?_
 refine sr ?_
 refine bx λb1=>?_
 refine bx λb2=>?_
 refine cq ?_
 refine cq ?_
 refine nt ?_
 refine sr ?_
 refine fr 1 ?_
 refine lo g7 ?_
 refine fr 1 ?_
 refine lo cN ?_
 refine ja (bg (t:=Ti) [(.tmp 15,_)] [a1] rfl rfl dM (.cons rfl .int .nil) rfl rfl) ?_
 obtain⟨r3,Uo,h⟩:=aa h
 have y:=kB k a0 ([]:(List Int)) [a1] ([]:(List Int)) r3 Uo
 rcases hr:r3.1 with _ |q4
 .
  rw [hr] at h y;replace h:=uP h;refine aJ (Δ:=[]) (F:=_) (λ_ _ _=>ag rfl _) rfl rfl (bI (N:=[(.tmp 14,.rep au a0),(.const (.slice none 0 0),.eq (.slice none 0 0)),(.tmp 16,.rep Tl [a1]),(.const (.slice none 0 0),.eq (.slice none 0 0))]) (aR [.tmp 14,.const (.slice none 0 0),.tmp 16,.const (.slice none 0 0)] rfl rfl zI rfl y) λ_ _ _ hn=>⟨hn.1,(aC (t:=Tl) (x:=([]:(List Int))) .nil rfl rfl hn.2.1),hn.2.2.1,(aC (t:=Tl) (x:=([]:(List Int))) .nil rfl rfl hn.2.2.2.1),trivial⟩) ⟨rfl,rfl,rfl,rfl,trivial⟩ λ_=>?_;refine mq ?_;refine xr ?_;refine xr ?_;refine xr ?_;refine aX rfl rfl rfl (bi rfl Ja Ls) trivial λb5=>?_;refine aq ?_;refine aP rfl rfl (aN rfl xb rfl rfl rfl) ⟨rfl,rfl,trivial⟩ ?_;refine aq (nt (aj (sr ?_)));refine mq ?_;refine jb (fh rfl) ?_;refine nt (cn h (λh=>?_) (λh=>?_))
  .refine sr (mq ?_);refine cq ?_;refine aq (nt (rx ?_));refine bQ (eE (t:=Tl) (x:=([]:(List Int))) 4 rfl .nil rfl rfl) ?_;refine Aj ?_;cases h;exact rb
  .cases h
 .
  rw [hr] at h y;replace h:=uO h;refine aJ (Δ:=[]) (F:=_) (λ_ _ _=>ag rfl _) rfl rfl (bI (N:=[(.tmp 14,.rep au a0),(.const (.slice none 0 0),.eq (.slice none 0 0)),(.tmp 16,.rep Tl [a1]),(.const (.slice none 0 0),.eq (.slice none 0 0))]) (aR [.tmp 14,.const (.slice none 0 0),.tmp 16,.const (.slice none 0 0)] rfl rfl zI rfl y) λ_ _ _ hn=>⟨hn.1,(aC (t:=Tl) (x:=([]:(List Int))) .nil rfl rfl hn.2.1),hn.2.2.1,(aC (t:=Tl) (x:=([]:(List Int))) .nil rfl rfl hn.2.2.2.1),trivial⟩) ⟨rfl,rfl,rfl,rfl,trivial⟩ λz6=>?_;refine mq ?_;refine xr ?_;refine xr ?_;refine xr ?_;refine aX rfl rfl rfl (bi rfl Ja Ls) trivial λb7=>?_;refine aq ?_;refine aP rfl rfl (aN rfl xb rfl rfl rfl) ⟨rfl,rfl,trivial⟩ ?_;refine aq (nt (aj (sr ?_)));refine mq ?_;refine jb (fh rfl) ?_;refine nt (cn h (λh=>?_) (λh=>?_))
  .refine sr (mq ?_);refine cq ?_;refine aq (nt (rx ?_));refine bQ (eE (t:=Tl) (x:=([]:(List Int))) 4 rfl .nil rfl rfl) ?_;refine Aj ?_;cases h;exact rb
  .refine sk (sr (aX rfl rfl rfl (bi rfl Ja Ls) trivial λb8=>?_));refine nt (aj (sr (fl gW ?_)));refine fr 5 ?_;refine lo cN ?_;refine aX rfl rfl rfl (av [.tmp 25] rfl rfl Qx rfl (qS a0.1)) ⟨rfl,trivial⟩ λb9=>?_;refine nt (ak (jd (SE.nil 78 (.int .u8)) ?_));refine dQ 7 rfl ?_;refine dQ 7 rfl ?_;refine dQ 7 rfl ?_;refine dQ 7 rfl ?_;refine dQ 4 rfl ?_;refine dQ 7 rfl ?_;refine dQ 7 rfl ?_;refine dQ 7 rfl ?_;obtain⟨u,qt,h⟩:=aa h;refine rA (Δ:=[.obj b9 3 (I a0.1),.obj b1 25 (.rep au a0),.obj b8 92 (.eq (.slice none 0 0)),.sl (.slice none 0 0) 78 (.int .u8) ([]:(List Int)),.obj b7 92 (.rep (.slice (.int .u8)) r3.2.1),.obj z6.1 135 (aS q4 z6.2),.inv z6.2 (bX k q4),.obj b2 3 (I a1)]) (F:=[]) (X:=Value) (J:=λ_=>Pj u.2) (E:=λc=>[.obj b9 3 (I a0.1),.obj b1 25 (.rep au a0),.obj b8 92 (.eq c),.sl c 78 (.int .u8) u.1,.obj b7 92 (.rep (.slice (.int .u8)) r3.2.1),.obj z6.1 135 (aS q4 z6.2),.inv z6.2 (bX k q4),.obj b2 3 (I a1)]) (r0:=λ_=>.tup .any) rfl rfl MO (λrec hp ha hb hs hpe hN hv l=>?_) (λdl c=>tX (λhj=>?_) (λhj=>?_))
   .rcases rec with⟨st0,pe0,fn0,tm0,ps0,as0,bd0,df0⟩;dsimp only at hp ha hb hs hpe hN hv;subst hp hs hpe;have vN:Ae tm0 [(2,Pt b1),(3,Pt b2),(7,Pt b7),(9,Pt b8)]:=⟨congrArg A.eq (hv 2 _ rfl).symm,congrArg A.eq (hv 3 _ rfl).symm,congrArg A.eq (hv 7 _ rfl).symm,congrArg A.eq (hv 9 _ rfl).symm,trivial⟩;refine bV.pick (M:=(dH Tryz.prog)) [1,0,2,3,4,5,6,7,8] [1,0,2,3,4,5,6,7,8] (om (λ(c:Value) (q:(List Int)×Bool)=>[.raw l (.loop (j8 ⟨.ready,none,fn0,tm0, #[27],as0,bd0,df0⟩ (Pj q.2))),.obj b1 25 (.rep au a0),.obj b8 92 (.eq c),.sl c 78 (.int .u8) q.1,.obj b7 92 (.rep (.slice (.int .u8)) r3.2.1),.obj z6.1 135 (aS q4 z6.2),.inv z6.2 (bX k q4),.obj b2 3 (I a1)]) l (qC (λ(n:(List Int)) (j:Int)=>
    (m9 k a0 a1 j).bind λs=>
    fP s (none) (λO=>(eP k r3.2.1 O a1).bind λD=>
    if¬(D=true) then((cJ (bP (length n+length [j]))).bind λ_=>
    some (n++[j],true)) else(some (n,true))))) k a0.1 b9 (λc q p r' h=>?_) (.slice none 0 0) (([]:(List Int)),false) u qt) rfl (λ_=>rfl) (λ_=>rfl)
    obtain⟨rq,hq,h2,rfl⟩:=tY h;obtain⟨n,b5⟩:=q;obtain rfl:b5=false:=hq;replace h:=aY h2;obtain⟨j,hpv⟩:∃x,x=p:=⟨_,rfl⟩;subst hpv;refine YT.pick (R':=(λc:Value=>(.eq (.bool rq.2),[.raw l (.loop (j8 ⟨.ready,none,fn0,tm0, #[27],as0,bd0,df0⟩ (Pj (!rq.2)))),.obj b1 25 (.rep au a0),.obj b8 92 (.eq c),.sl c 78 (.int .u8) rq.1,.obj b7 92 (.rep (.slice (.int .u8)) r3.2.1),.obj z6.1 135 (aS q4 z6.2),.inv z6.2 (bX k q4),.obj b2 3 (I a1)]))) [0,1,2,3,4,5,6,7] [0,1,2,3,4,5,6,7] (Ix ha hb (N:=44) (Γ:=[(2,Pt b1),(3,Pt b2),(7,Pt b7),(9,Pt b8)]) rfl hN (by decide) vN (λS w=>?_)) rfl (λ_=>rfl) (λ_=>rfl);refine ab (aq (nl ?_));refine Am rfl rfl ?_;refine ak (sr (fr 1 ?_));refine lo g7 ?_;refine fr 7 ?_;refine lo cN ?_;refine mq ?_;obtain⟨s,mw,h⟩:=aa h;have e:=vE k a0 a1 j s mw;rcases hr:s with _ |O
    .rw [hr] at h e;replace h:=uP h;refine aJ (Δ:=[]) (F:=_) (λ_ _ _=>ag rfl _) rfl rfl (av [.tmp 28,.tmp 29,.tmp 30] rfl rfl Qw rfl e) ⟨rfl,rfl,rfl,trivial⟩ λ_=>?_;cases h
    .rw [hr] at h e;replace h:=uO h;refine aJ (Δ:=[]) (F:=_) (λ_ _ _=>ag rfl _) rfl rfl (av [.tmp 28,.tmp 29,.tmp 30] rfl rfl Qw rfl e) ⟨rfl,rfl,rfl,trivial⟩ λQ=>?_;refine aX rfl rfl rfl (bi rfl RF Tv) trivial λzz=>?_;refine aP rfl rfl (aN rfl Jt rfl rfl rfl) ⟨rfl,rfl,trivial⟩ ?_;refine nt (sr (jb (pN [] [.tmp 11,.tmp 3] [] [(Pv zz),(Pv b2)] rfl rfl rfl) ?_));refine aq (nt (sr ?_));refine fr 8 ?_;refine lo xb ?_;refine mq ?_;obtain⟨D,mc,h⟩:=aa h;refine fr 4 ?_;refine fr 2 ?_;refine fr 4 ?_;refine fr 4 ?_;refine aJ (Δ:=[_,_,_,_]) (F:=_) (λ_ _ _=>ag rfl _) rfl rfl (aR [.tmp 33,.tmp 34] rfl rfl SI rfl (mt k r3.2.1 O Q.1 Q.2 zz a1 b2 D mc)) ⟨rfl,rfl,trivial⟩ λ_=>?_;refine ja (iz rfl) ?_;refine nt (cw h (λh=>?_) (λh=>?_))
     .refine ab (fr 7 ?_);refine lo xb ?_;refine mq ?_;refine ja (bg (t:=(.int .u8)) [(.tmp 38,_)] [j] rfl rfl JG (.cons rfl .int .nil) rfl rfl) ?_;obtain⟨Up,Y,h⟩:=aa h;refine fr 8 ?_;refine dY rfl rfl rfl (cp rfl rfl JG (am Y)) ⟨rfl,rfl,trivial⟩ λUm=>?_;refine sR λo22=>?_;refine fr 1 ?_;refine aP rfl rfl (aN rfl xb o22 rfl rfl) ⟨rfl,rfl,trivial⟩ ?_;refine aE (aQ (bo 5 rfl ?_));refine bo 10 rfl ?_;refine bo 10 rfl ?_;refine bo 8 rfl ?_;refine bo 5 rfl ?_;refine bo 5 rfl ?_;refine bo 9 rfl ?_;refine bo 10 rfl ?_;cases h;exact pi Um 7 rfl
     .refine be (aQ (bo 3 rfl ?_));refine bo 10 rfl ?_;refine bo 10 rfl ?_;refine bo 6 rfl ?_;refine bo 10 rfl ?_;refine bo 10 rfl ?_;refine bo 9 rfl ?_;refine bo 10 rfl ?_;cases h;exact pi c 7 rfl
   .replace h:=cY (MB hj) h;refine aQ (tn (sr (fr 3 ?_)));refine lo xb ?_;obtain⟨U,gw,h⟩:=aa h;refine fr 4 ?_;refine kb (lB (N:=[(.tmp 41,.eq c),(.func 89,.eq (.func (.func 89) #[] #[]))]) (av [.tmp 41,.func 89] rfl rfl QA rfl (vF k u.1 U gw)) (λ_ _ _ hv hn=>⟨(lend hn.1 hv),hn.2.1,trivial⟩) (λ_=>⟨rfl,ox⟩)) ?_;obtain⟨Un,Z,h⟩:=aa h;refine ja (av [.tmp 42] rfl rfl Ia rfl (fV k U Un Z)) ?_;refine aq ?_;refine cq (nt (aA ?_));refine bo 2 rfl ?_;refine DY ?_;cases h;exact rb
   .replace h:=fg (Me hj) h;cases h
def oq(k:Nat):Option Bool:=
 (iE k ([]:(List bz))).bind λr1=>
 (iw k r1 [0]).bind λr2=>
 (iE k ([]:(List bz))).bind λr3=>
 (jj k r3).bind λr4=>
 (iE k ([]:(List bz))).bind λr5=>
 (sa k r5 2).bind λr6=>
 (iE k ([]:(List bz))).bind λr8=>
 (sb k r8 [0] 3).bind λr9=>
 (iE k ([]:(List bz))).bind λu=>
 (uq k u 2).bind λc=>
 (iE k ([]:(List bz))).bind λs=>
 (pZ k s 2).bind λe=>
 ((if r2.2=0 then(if r4.2=0 then(if r6.2=0 then(if r9.2=0 then(if c.2.2=0 then(if e.2=0 then(if r6.1=(1,3) then(if c.1=2 then(if c.2.1=2 then((ek k r2.1 [[1,(-1:Int),(-1:Int),(-1:Int)],[2,0,(-1:Int),(-1:Int)],[3,1,(-1:Int),(-1:Int)],[3,2,0,(-1:Int)],[(-1:Int),3,1,0]]).bind λr=>
 if r=true then((ek k r4.1 [[0],[0,1],[1]]).bind λn=>
 if n=true then((eY k r9.1 [0,1,3]).bind λl=>
 if l=true then((eY k e.1 [1,2]).bind λj=>
 some j) else(some false)) else(some false)) else(some false)) else(some false)) else(some false)) else(some false)) else(some false)) else(some false)) else(some false)) else(some false)) else(some false)) else(some false)):Option (Bool)).bind λh=>
 some h
theorem s6(k:Nat)(r:Bool)(h:oq k=some r):
 bV (dH Tryz.prog) 11 [] [] (λ_:Unit=>(bD [.eq (.bool r)],[])):=by
 unfold oq at h
 replace h:=aY h
 refine bV.of 110 Tryz.func11 rfl Tryz.ntmps11 rfl λS w0=>?_
 refine sr ?_
 refine cq ?_
 refine nt ?_
 refine sr ?_
 obtain⟨r1,Ut,h⟩:=aa h
 have UC:=gJ k ([]:(List bz)) r1 Ut
 refine ja (bI (N:=[(.const (.slice none 0 0),.eq (.slice none 0 0))]) (av [.const (.slice none 0 0)] rfl rfl EK rfl UC) λ_ _ _ hn=>⟨(aC (t:=(.slice aZ)) (x:=([]:(List bz))) .nil rfl rfl hn.1),trivial⟩) ?_
 refine ja (bg (t:=Ti) [(.const (.int .i64 (0)),_)] [0] rfl rfl dM (.cons rfl .int .nil) rfl rfl) ?_
 obtain⟨r2,Us,h⟩:=aa h
 have UB:=pz k r1 [0] r2 Us
 refine jb (aR [.tmp 15,.tmp 16] rfl rfl QG rfl UB) ?_
 refine mq ?_
 refine xr ?_
 refine xr ?_
 refine aq ?_
 refine aq ?_
 refine nt ?_
 refine sr ?_
 obtain⟨r3,Ur,h⟩:=aa h
 have UA:=gJ k ([]:(List bz)) r3 Ur
 refine ja (bI (N:=[(.const (.slice none 0 0),.eq (.slice none 0 0))]) (av [.const (.slice none 0 0)] rfl rfl EK rfl UA) λ_ _ _ hn=>⟨(aC (t:=(.slice aZ)) (x:=([]:(List bz))) .nil rfl rfl hn.1),trivial⟩) ?_
 obtain⟨r4,Up,h⟩:=aa h
 have Uz:=pA k r3 r4 Up
 refine ja (aR [.tmp 21] rfl rfl QF rfl Uz) ?_
 refine mq ?_
 refine xr ?_
 refine xr ?_
 refine aq ?_
 refine aq ?_
 refine nt ?_
 refine sr ?_
 obtain⟨r5,Uo,h⟩:=aa h
 have Uy:=gJ k ([]:(List bz)) r5 Uo
 refine ja (bI (N:=[(.const (.slice none 0 0),.eq (.slice none 0 0))]) (av [.const (.slice none 0 0)] rfl rfl EK rfl Uy) λ_ _ _ hn=>⟨(aC (t:=(.slice aZ)) (x:=([]:(List bz))) .nil rfl rfl hn.1),trivial⟩) ?_
 obtain⟨r6,Un,h⟩:=aa h
 have Ux:=xy k r5 2 r6 Un
 refine jb (aR [.tmp 26,.const (.int .i64 (2))] rfl rfl S9 rfl Ux) ?_
 refine mq ?_
 refine xr ?_
 refine xr ?_
 refine aX rfl rfl rfl (bi rfl AB QZ) trivial λb7=>?_
 refine aP rfl rfl (aN rfl vv rfl rfl rfl) ⟨rfl,rfl,trivial⟩ ?_
 refine aq ?_
 refine nt ?_
 refine sr ?_
 obtain⟨r8,Um,h⟩:=aa h
 have Uw:=gJ k ([]:(List bz)) r8 Um
 refine ja (bI (N:=[(.const (.slice none 0 0),.eq (.slice none 0 0))]) (av [.const (.slice none 0 0)] rfl rfl EK rfl Uw) λ_ _ _ hn=>⟨(aC (t:=(.slice aZ)) (x:=([]:(List bz))) .nil rfl rfl hn.1),trivial⟩) ?_
 refine ja (bg (t:=Ti) [(.const (.int .i64 (0)),_)] [0] rfl rfl dM (.cons rfl .int .nil) rfl rfl) ?_
 obtain⟨r9,zz,h⟩:=aa h
 have Uu:=xA k r8 [0] 3 r9 zz
 refine jc (aR [.tmp 31,.tmp 32,.const (.int .i64 (3))] rfl rfl Ta rfl Uu) ?_
 refine mq ?_
 refine xr ?_
 refine xr ?_
 refine aq ?_
 refine aq ?_
 refine nt ?_
 refine sr ?_
 obtain⟨u,O,h⟩:=aa h
 have Y:=gJ k ([]:(List bz)) u O
 refine ja (bI (N:=[(.const (.slice none 0 0),.eq (.slice none 0 0))]) (av [.const (.slice none 0 0)] rfl rfl EK rfl Y) λ_ _ _ hn=>⟨(aC (t:=(.slice aZ)) (x:=([]:(List bz))) .nil rfl rfl hn.1),trivial⟩) ?_
 obtain⟨qt,M,h⟩:=aa h
 have X:=zk k u 2 qt M
 refine jb (aR [.tmp 37,.const (.int .i64 (2))] rfl rfl Tm rfl X) ?_
 refine mq ?_
 refine xr ?_
 refine xr ?_
 refine xr ?_
 refine aq ?_
 refine aq ?_
 refine aq ?_
 refine nt ?_
 refine sr ?_
 obtain⟨n,J,h⟩:=aa h
 have U:=gJ k ([]:(List bz)) n J
 refine ja (bI (N:=[(.const (.slice none 0 0),.eq (.slice none 0 0))]) (av [.const (.slice none 0 0)] rfl rfl EK rfl U) λ_ _ _ hn=>⟨(aC (t:=(.slice aZ)) (x:=([]:(List bz))) .nil rfl rfl hn.1),trivial⟩) ?_
 obtain⟨l,I,h⟩:=aa h
 have Q:=vG k n 2 l I
 refine jb (aR [.tmp 43,.const (.int .i64 (2))] rfl rfl S7 rfl Q) ?_
 refine mq ?_
 refine xr ?_
 refine xr ?_
 refine aq ?_
 refine aq ?_
 refine nt ?_
 refine aH (Z:=Unit) (α:=Bool) (λe c=>[(0,.eq (.bool c))]) (λe c=>[]) h (λK h=>?_) (λe c h=>?_)
 .
  refine ab (mq ?_);refine jb (hH rfl) ?_;refine mq ?_;refine cK (s:=49) rfl (λhb=>?_) (λhb=>?_)
  .replace h:=fg (tJ hb) h;refine gm ?_;refine gb (hH rfl) ?_;refine pt ?_;refine mq ?_;refine cK (s:=53) rfl (λhb=>?_) (λhb=>?_)
   .replace h:=fg (tJ hb) h;refine gm ?_;refine gb (hH rfl) ?_;refine pt ?_;refine mq ?_;refine cK (s:=57) rfl (λhb=>?_) (λhb=>?_)
    .replace h:=fg (tJ hb) h;refine gm ?_;refine gb (hH rfl) ?_;refine pt ?_;refine mq ?_;refine cK (s:=61) rfl (λhb=>?_) (λhb=>?_)
     .replace h:=fg (tJ hb) h;refine gm ?_;refine gb (hH rfl) ?_;refine pt ?_;refine mq ?_;refine cK (s:=65) rfl (λhb=>?_) (λhb=>?_)
      .replace h:=fg (tJ hb) h;refine gm ?_;refine gb (hH rfl) ?_;refine pt ?_;refine mq ?_;refine cK (s:=69) rfl (λhb=>?_) (λhb=>?_)
       .replace h:=fg (tJ hb) h;refine oI rfl rfl rfl rfl rfl rfl (ax rfl vv (tC) rfl) ⟨rfl,trivial⟩ ?_;refine gb (dZ [(0,.const (.int .i64 (1)),_),(1,.const (.int .i64 (3)),_)] rfl GR AB Aa (jF ⟨rfl,rfl,trivial⟩) rfl) ?_;refine eG (eE (t:=bM) (x:=(1,3)) 71 rfl (.agg (.pair .int .int)) trivial rfl) ?_;refine gb (N4 rfl SG rfl) ?_;refine pt ?_;refine mq ?_;refine cK (s:=74) rfl (λhb=>?_) (λhb=>?_)
        .replace h:=fg (tJ hb) h;refine gm ?_;refine gb (hH rfl) ?_;refine pt ?_;refine mq ?_;refine cK (s:=78) rfl (λhb=>?_) (λhb=>?_)
         .replace h:=fg (tJ hb) h;refine gm ?_;refine gb (hH rfl) ?_;refine pt ?_;refine mq ?_;refine cK (s:=82) rfl (λhb=>?_) (λhb=>?_)
          .replace h:=fg (tJ hb) h;refine gm ?_;refine km rfl rfl rfl rfl rfl rfl (bg (t:=Ti) [(.const (.int .i64 (1)),_),(.const (.int .i64 (-1)),_),(.const (.int .i64 (-1)),_),(.const (.int .i64 (-1)),_)] [1,(-1:Int),(-1:Int),(-1:Int)] rfl rfl dM (.cons rfl .int (.cons rfl .int (.cons rfl .int (.cons rfl .int .nil)))) rfl rfl) ⟨rfl,rfl,rfl,rfl,trivial⟩ ?_;refine km rfl rfl rfl rfl rfl rfl (bg (t:=Ti) [(.const (.int .i64 (2)),_),(.const (.int .i64 (0)),_),(.const (.int .i64 (-1)),_),(.const (.int .i64 (-1)),_)] [2,0,(-1:Int),(-1:Int)] rfl rfl dM (.cons rfl .int (.cons rfl .int (.cons rfl .int (.cons rfl .int .nil)))) rfl rfl) ⟨rfl,rfl,rfl,rfl,trivial⟩ ?_;refine km rfl rfl rfl rfl rfl rfl (bg (t:=Ti) [(.const (.int .i64 (3)),_),(.const (.int .i64 (1)),_),(.const (.int .i64 (-1)),_),(.const (.int .i64 (-1)),_)] [3,1,(-1:Int),(-1:Int)] rfl rfl dM (.cons rfl .int (.cons rfl .int (.cons rfl .int (.cons rfl .int .nil)))) rfl rfl) ⟨rfl,rfl,rfl,rfl,trivial⟩ ?_;refine km rfl rfl rfl rfl rfl rfl (bg (t:=Ti) [(.const (.int .i64 (3)),_),(.const (.int .i64 (2)),_),(.const (.int .i64 (0)),_),(.const (.int .i64 (-1)),_)] [3,2,0,(-1:Int)] rfl rfl dM (.cons rfl .int (.cons rfl .int (.cons rfl .int (.cons rfl .int .nil)))) rfl rfl) ⟨rfl,rfl,rfl,rfl,trivial⟩ ?_;refine km rfl rfl rfl rfl rfl rfl (bg (t:=Ti) [(.const (.int .i64 (-1)),_),(.const (.int .i64 (3)),_),(.const (.int .i64 (1)),_),(.const (.int .i64 (0)),_)] [(-1:Int),3,1,0] rfl rfl dM (.cons rfl .int (.cons rfl .int (.cons rfl .int (.cons rfl .int .nil)))) rfl rfl) ⟨rfl,rfl,rfl,rfl,trivial⟩ ?_;refine km rfl rfl rfl rfl rfl rfl (bg (t:=Tl) [(.tmp 84,_),(.tmp 85,_),(.tmp 86,_),(.tmp 87,_),(.tmp 88,_)] [[1,(-1:Int),(-1:Int),(-1:Int)],[2,0,(-1:Int),(-1:Int)],[3,1,(-1:Int),(-1:Int)],[3,2,0,(-1:Int)],[(-1:Int),3,1,0]] rfl rfl my (.cons rfl .rep (.cons rfl .rep (.cons rfl .rep (.cons rfl .rep (.cons rfl .rep .nil))))) rfl rfl) ⟨rfl,rfl,rfl,rfl,rfl,trivial⟩ ?_;obtain⟨mw,F,h⟩:=aa h;refine gb (av [.tmp 83,.tmp 89] rfl rfl Oy rfl (jm k r2.1 [[1,(-1:Int),(-1:Int),(-1:Int)],[2,0,(-1:Int),(-1:Int)],[3,1,(-1:Int),(-1:Int)],[3,2,0,(-1:Int)],[(-1:Int),3,1,0]] mw F)) ?_;refine pt ?_;refine mq ?_;refine cK (s:=92) rfl (λhb=>?_) (λhb=>?_)
           .replace h:=fg (Me hb) h;refine gm ?_;refine ga (bg (t:=Ti) [(.const (.int .i64 (0)),_)] [0] rfl rfl dM (.cons rfl .int .nil) rfl rfl) ?_;refine gb (bg (t:=Ti) [(.const (.int .i64 (0)),_),(.const (.int .i64 (1)),_)] [0,1] rfl rfl dM (.cons rfl .int (.cons rfl .int .nil)) rfl rfl) ?_;refine ga (bg (t:=Ti) [(.const (.int .i64 (1)),_)] [1] rfl rfl dM (.cons rfl .int .nil) rfl rfl) ?_;refine gc (bg (t:=Tl) [(.tmp 94,_),(.tmp 95,_),(.tmp 96,_)] [[0],[0,1],[1]] rfl rfl my (.cons rfl .rep (.cons rfl .rep (.cons rfl .rep .nil))) rfl rfl) ?_;obtain⟨mc,E,h⟩:=aa h;refine gb (av [.tmp 93,.tmp 97] rfl rfl Oy rfl (jm k r4.1 [[0],[0,1],[1]] mc E)) ?_;refine pt ?_;refine mq ?_;refine cK (s:=100) rfl (λhb=>?_) (λhb=>?_)
            .replace h:=fg (Me hb) h;refine gm ?_;refine gc (bg (t:=Ti) [(.const (.int .i64 (0)),_),(.const (.int .i64 (1)),_),(.const (.int .i64 (3)),_)] [0,1,3] rfl rfl dM (.cons rfl .int (.cons rfl .int (.cons rfl .int .nil))) rfl rfl) ?_;obtain⟨gw,D,h⟩:=aa h;refine gb (av [.tmp 101,.tmp 102] rfl rfl K2 rfl (ip k r9.1 [0,1,3] gw D)) ?_;refine pt ?_;refine mq ?_;refine cK (s:=105) rfl (λhb=>?_) (λhb=>?_)
             .replace h:=fg (Me hb) h;refine gm ?_;refine gb (bg (t:=Ti) [(.const (.int .i64 (1)),_),(.const (.int .i64 (2)),_)] [1,2] rfl rfl dM (.cons rfl .int (.cons rfl .int .nil)) rfl rfl) ?_;obtain⟨j,y,h⟩:=aa h;refine gb (av [.tmp 106,.tmp 107] rfl rfl K2 rfl (ip k l.1 [1,2] j y)) ?_;refine pt ?_;refine aq (nl ?_);exact jz ((),j) h []
             .replace h:=cY (MB hb) h;iterate 3 refine gn ?_
              refine pf ?_;refine aq (nl ?_);exact jz ((),false) h []
            .replace h:=cY (MB hb) h;iterate 3 refine gn ?_
             refine pf ?_;refine mq ?_;iterate 3 refine gn ?_
             refine pf ?_;refine aq (nl ?_);exact jz ((),false) h []
           .replace h:=cY (MB hb) h;iterate 6 refine gn ?_
            refine pf ?_;refine mq ?_;iterate 3 refine gn ?_
            refine pf ?_;refine mq ?_;iterate 3 refine gn ?_
            refine pf ?_;refine aq (nl ?_);exact jz ((),false) h []
          .replace h:=cY (tK hb) h;iterate 8 refine gn ?_
           refine pf ?_;refine mq ?_;iterate 6 refine gn ?_
           refine pf ?_;refine mq ?_;iterate 3 refine gn ?_
           refine pf ?_;refine mq ?_;iterate 3 refine gn ?_
           refine pf ?_;refine aq (nl ?_);exact jz ((),false) h []
         .replace h:=cY (tK hb) h;iterate 2 refine gn ?_
          refine pf ?_;refine mq ?_;iterate 8 refine gn ?_
          refine pf ?_;refine mq ?_;iterate 6 refine gn ?_
          refine pf ?_;refine mq ?_;iterate 3 refine gn ?_
          refine pf ?_;refine mq ?_;iterate 3 refine gn ?_
          refine pf ?_;refine aq (nl ?_);exact jz ((),false) h []
        .replace h:=cY (tK hb) h;iterate 2 refine gn ?_
         refine pf ?_;refine mq ?_;iterate 2 refine gn ?_
         refine pf ?_;refine mq ?_;iterate 8 refine gn ?_
         refine pf ?_;refine mq ?_;iterate 6 refine gn ?_
         refine pf ?_;refine mq ?_;iterate 3 refine gn ?_
         refine pf ?_;refine mq ?_;iterate 3 refine gn ?_
         refine pf ?_;refine aq (nl ?_);exact jz ((),false) h []
       .replace h:=cY (tK hb) h;iterate 3 refine gn ?_
        refine pf ?_;refine mq ?_;iterate 2 refine gn ?_
        refine pf ?_;refine mq ?_;iterate 2 refine gn ?_
        refine pf ?_;refine mq ?_;iterate 8 refine gn ?_
        refine pf ?_;refine mq ?_;iterate 6 refine gn ?_
        refine pf ?_;refine mq ?_;iterate 3 refine gn ?_
        refine pf ?_;refine mq ?_;iterate 3 refine gn ?_
        refine pf ?_;refine aq (nl ?_);exact jz ((),false) h []
      .replace h:=cY (tK hb) h;iterate 2 refine gn ?_
       refine pf ?_;refine mq ?_;iterate 3 refine gn ?_
       refine pf ?_;refine mq ?_;iterate 2 refine gn ?_
       refine pf ?_;refine mq ?_;iterate 2 refine gn ?_
       refine pf ?_;refine mq ?_;iterate 8 refine gn ?_
       refine pf ?_;refine mq ?_;iterate 6 refine gn ?_
       refine pf ?_;refine mq ?_;iterate 3 refine gn ?_
       refine pf ?_;refine mq ?_;iterate 3 refine gn ?_
       refine pf ?_;refine aq (nl ?_);exact jz ((),false) h []
     .replace h:=cY (tK hb) h;iterate 2 refine gn ?_
      refine pf ?_;refine mq ?_;iterate 2 refine gn ?_
      refine pf ?_;refine mq ?_;iterate 3 refine gn ?_
      refine pf ?_;refine mq ?_;iterate 2 refine gn ?_
      refine pf ?_;refine mq ?_;iterate 2 refine gn ?_
      refine pf ?_;refine mq ?_;iterate 8 refine gn ?_
      refine pf ?_;refine mq ?_;iterate 6 refine gn ?_
      refine pf ?_;refine mq ?_;iterate 3 refine gn ?_
      refine pf ?_;refine mq ?_;iterate 3 refine gn ?_
      refine pf ?_;refine aq (nl ?_);exact jz ((),false) h []
    .replace h:=cY (tK hb) h;iterate 2 refine gn ?_
     refine pf ?_;refine mq ?_;iterate 2 refine gn ?_
     refine pf ?_;refine mq ?_;iterate 2 refine gn ?_
     refine pf ?_;refine mq ?_;iterate 3 refine gn ?_
     refine pf ?_;refine mq ?_;iterate 2 refine gn ?_
     refine pf ?_;refine mq ?_;iterate 2 refine gn ?_
     refine pf ?_;refine mq ?_;iterate 8 refine gn ?_
     refine pf ?_;refine mq ?_;iterate 6 refine gn ?_
     refine pf ?_;refine mq ?_;iterate 3 refine gn ?_
     refine pf ?_;refine mq ?_;iterate 3 refine gn ?_
     refine pf ?_;refine aq (nl ?_);exact jz ((),false) h []
   .replace h:=cY (tK hb) h;iterate 2 refine gn ?_
    refine pf ?_;refine mq ?_;iterate 2 refine gn ?_
    refine pf ?_;refine mq ?_;iterate 2 refine gn ?_
    refine pf ?_;refine mq ?_;iterate 2 refine gn ?_
    refine pf ?_;refine mq ?_;iterate 3 refine gn ?_
    refine pf ?_;refine mq ?_;iterate 2 refine gn ?_
    refine pf ?_;refine mq ?_;iterate 2 refine gn ?_
    refine pf ?_;refine mq ?_;iterate 8 refine gn ?_
    refine pf ?_;refine mq ?_;iterate 6 refine gn ?_
    refine pf ?_;refine mq ?_;iterate 3 refine gn ?_
    refine pf ?_;refine mq ?_;iterate 3 refine gn ?_
    refine pf ?_;refine aq (nl ?_);exact jz ((),false) h []
  .replace h:=cY (tK hb) h;iterate 2 refine gn ?_
   refine pf ?_;refine mq ?_;iterate 2 refine gn ?_
   refine pf ?_;refine mq ?_;iterate 2 refine gn ?_
   refine pf ?_;refine mq ?_;iterate 2 refine gn ?_
   refine pf ?_;refine mq ?_;iterate 2 refine gn ?_
   refine pf ?_;refine mq ?_;iterate 3 refine gn ?_
   refine pf ?_;refine mq ?_;iterate 2 refine gn ?_
   refine pf ?_;refine mq ?_;iterate 2 refine gn ?_
   refine pf ?_;refine mq ?_;iterate 8 refine gn ?_
   refine pf ?_;refine mq ?_;iterate 6 refine gn ?_
   refine pf ?_;refine mq ?_;iterate 3 refine gn ?_
   refine pf ?_;refine mq ?_;iterate 3 refine gn ?_
   refine pf ?_;refine aq (nl ?_);exact jz ((),false) h []
 .
  refine aA ?_;cases h;exact ra
def fo(k:Nat)(r4:(List Int)×bU):Nat->((List Int)×Int×Int×Int×(List (List Int)))->Option ((List Int)×Int×Int×(List (List Int)))
 |0,_=>none
 |n+1,y7=>
  if y7.2.2.2.1 < (r4.1.length:Int) then((((fa k (y7.1,y7.2.1,y7.2.2.1) 5).bind λc=>
  if c.1=true then(some (c.2.1,c.2.2.1,c.2.2.2,y7.2.2.2.2)) else((ck ((y7.2.2.2.2.length:Int) - 1)).bind λr=>
  (co k (c.2.1,c.2.2.1,c.2.2.2) r).bind λe=>
  (aM y7.2.2.2.2 e.1).bind λj=>
  (aM r4.1 y7.2.2.2.1).bind λh=>
  (cJ (bP (length j+length [h]))).bind λ_=>
  some (e.2.1,e.2.2.1,e.2.2.2,List.set y7.2.2.2.2 (Int.toNat e.1) (j++[h])))):Option ((List Int)×Int×Int×(List (List Int)))).bind λx9=>
  (ck (y7.2.2.2.1+1)).bind λl=>
  fo k r4 n (x9.1,x9.2.1,x9.2.2.1,l,x9.2.2.2)) else(some (y7.1,y7.2.1,y7.2.2.1,y7.2.2.2.2))
def jM(k:Nat)(a0:bU)(a1:Int):Option ((List (List Int))×bU):=
 (fD k (a0.1,a0.2.1,a0.2.2) 1 3).bind λr1=>
 (cJ (0≤r1.1/\bP (Int.toNat r1.1))).bind λ_=>
 (gA k (r1.2.1,r1.2.2.1,r1.2.2.2) a1).bind λr4=>
 ((fo k r4 k (r4.2.1,r4.2.2.1,r4.2.2.2,0,List.replicate (Int.toNat r1.1) ([]:(List Int)))):Option ((List Int)×Int×Int×(List (List Int)))).bind λx5=>
 some (x5.2.2.2,(x5.1,x5.2.1,x5.2.2.1))
theorem uC(k:Nat)(a0:bU)(c:Nat)(a1:Int)(r:(List (List Int))×bU)(h:jM k a0 a1=some r):
 dk Tryz.prog 100 [Pt c,I a1] [.obj c 74 (.agg (.pair (.rep Tl a0.1) (.pair (I a0.2.1) (.eq (.int .u64 a0.2.2)))))] (λ_:Unit=>(bD [.rep (.slice Tl) r.1],[.obj c 74 (.agg (.pair (.rep Tl r.2.1) (.pair (I r.2.2.1) (.eq (.int .u64 r.2.2.2)))))])):=by
 unfold jM at h
 replace h:=aY h
 refine dk.of 42 Tryz.func100 rfl Tryz.ntmps100 rfl λS w0=>?_
 refine sr ?_
 refine cq ?_
 refine nt ?_
 refine sr ?_
 refine mq ?_
 obtain⟨r1,Uw,h⟩:=aa h
 have Uy:=iU k (a0.1,a0.2.1,a0.2.2) c 1 3 r1 Uw
 refine kc (av [.tmp 9,.const (.int .i64 (1)),.const (.int .i64 (3))] rfl rfl K0 rfl Uy) ?_
 obtain⟨u2,U,h⟩:=aa h
 refine aX rfl rfl rfl (N3 (t:=.val) (d:=.slice none 0 0) rfl my Pm (am U).1 (am U).2) ⟨rfl,rfl,trivial⟩ λv3=>?_
 refine eG (IH (F:=[.obj c 74 (.agg (.pair (.rep Tl r1.2.1) (.pair (I r1.2.2.1) (.eq (.int .u64 r1.2.2.2)))))])) ?_
 refine aq ?_
 refine nt ?_
 refine sr ?_
 iterate 2 refine mq ?_
 obtain⟨r4,Uu,h⟩:=aa h
 have Ux:=qV k (r1.2.1,r1.2.2.1,r1.2.2.2) c a1 r4 Uu
 refine kb (av [.tmp 12,.tmp 13] rfl rfl QO rfl Ux) ?_
 refine aq ?_
 refine nt ?_
 refine aH (Z:=(Value×(Nat->Value))) (α:=(List Int)×Int×Int×(List (List Int))) (λz6 x5=>[(5,.eq z6.1)]) (λz6 x5=>[.obj c 74 (.agg (.pair (.rep Tl x5.1) (.pair (I x5.2.1) (.eq (.int .u64 x5.2.2.1)))))]++xn 28 z6 x5.2.2.2) h (λK h=>?_) (λz6 x5 h=>?_)
 .
  refine sr (cq (nt (ak ?_)));refine aI (Z:=(Value×(Nat->Value))) (α:=(List Int)×Int×Int×Int×(List (List Int))) (λz8 y7=>[(0,Pt c),(5,.eq z8.1),(6,.rep Tl r4.1),(7,I y7.2.2.2.1)]) (λz8 y7=>[.obj c 74 (.agg (.pair (.rep Tl y7.1) (.pair (I y7.2.1) (.eq (.int .u64 y7.2.2.1)))))]++xn 28 z8 y7.2.2.2.2) (fo k r4) k (v3,λ_=>.slice none 0 0) (r4.2.1,r4.2.2.1,r4.2.2.2,0,List.replicate (Int.toNat r1.1) ([]:(List Int))) (λ_=>rfl) h (kH [.obj c 74 (.agg (.pair (.rep Tl r4.2.1) (.pair (I r4.2.2.1) (.eq (.int .u64 r4.2.2.2)))))] (xn 28 (v3,λ_=>.slice none 0 0) (List.replicate (Int.toNat r1.1) ([]:(List Int)))) [0] ⟨rfl,rfl,rfl,rfl,trivial⟩ rfl) (λn z8 y7 h=>?_);unfold fo at h;refine aj (sr ?_);iterate 2 refine mq ?_
  refine ol iq ?_;refine jb (bF rfl) ?_;refine nt (ci h (λh=>?_) (λh=>?_))
  .refine sk (aH (Z:=(Value×(Nat->Value))) (α:=(List Int)×Int×Int×(List (List Int))) (λy x9=>[(0,Pt c),(5,.eq y.1),(6,.rep Tl r4.1),(7,I y7.2.2.2.1)]) (λy x9=>[.obj c 74 (.agg (.pair (.rep Tl x9.1) (.pair (I x9.2.1) (.eq (.int .u64 x9.2.2.1)))))]++xn 28 y x9.2.2.2) h (λK h=>?_) (λy x9 h=>?_))
   .refine ak (aj (sr (mq ?_)));obtain⟨j,gw,h⟩:=aa h;refine kb (av [.tmp 21,.const (.int .i64 (5))] rfl rfl Ov rfl (jo k (y7.1,y7.2.1,y7.2.2.1) c 5 j gw)) ?_;refine nt (cv h (λh=>?_) (λh=>?_))
    .refine gQ (cy (dF (an ?_)));exact vc (z8,(j.2.1,j.2.2.1,j.2.2.2,y7.2.2.2.2)) h (kH [.obj c 74 (.agg (.pair (.rep Tl j.2.1) (.pair (I j.2.2.1) (.eq (.int .u64 j.2.2.2)))))] (xn 28 z8 y7.2.2.2.2) [0] ⟨rfl,rfl,rfl,rfl,trivial⟩ rfl)
    .refine sk (sr ?_);iterate 2 refine mq ?_
     refine IP (pre:=[.obj c 74 (.agg (.pair (.rep Tl j.2.1) (.pair (I j.2.2.1) (.eq (.int .u64 j.2.2.2)))))]) rfl rfl rfl rfl rfl qp ⟨rfl,trivial⟩ ?_;obtain⟨mw,Q,h⟩:=aa h;refine jb (eg rfl Q) ?_;obtain⟨e,Y,h⟩:=aa h;refine kb (av [.tmp 23,.tmp 26] rfl rfl vJ rfl (cG k (j.2.1,j.2.2.1,j.2.2.2) c mw e Y)) ?_;refine aq (nt ?_);obtain⟨x,s,h⟩:=aa h;refine jd (E5 (pre:=[.obj c 74 (.agg (.pair (.rep Tl e.2.1) (.pair (I e.2.2.1) (.eq (.int .u64 e.2.2.2)))))]) (C9 s).2) ?_;obtain⟨u,O,h⟩:=aa h;obtain⟨u16,X,h⟩:=aa h;refine IS (Δ:=[.sl (z8.2 (Int.toNat e.1)) 3 Ti x,.sl z8.1 28 .val (nN z8.2 0 y7.2.2.2.2),.obj c 74 (.agg (.pair (.rep Tl e.2.1) (.pair (I e.2.2.1) (.eq (.int .u64 e.2.2.2)))))]) (F:=(nF z8.2 0 y7.2.2.2.2).eraseIdx (Int.toNat e.1)) (Z:=Value) (λi=>[(0,Pt c),(5,.eq z8.1),(6,.rep Tl r4.1),(7,I y7.2.2.2.1)]) (λi=>[.sl z8.1 28 .val (List.set (nN z8.2 0 y7.2.2.2.2) (Int.toNat e.1) i),.sl i 3 Ti (x++[u]),.obj c 74 (.agg (.pair (.rep Tl e.2.1) (.pair (I e.2.2.1) (.eq (.int .u64 e.2.2.2)))))]) (λS w=>?_) (λl=>?_)
     .refine rC ?_;refine bO rfl rfl rfl (bA rfl) ⟨rfl,trivial⟩ ?_;refine bO rfl rfl rfl (bA rfl) ⟨rfl,trivial⟩ ?_;refine bO rfl rfl rfl (bA rfl) ⟨rfl,trivial⟩ ?_;refine bO rfl rfl rfl (bA rfl) ⟨rfl,trivial⟩ ?_;refine gZ 1 rfl rfl rfl rfl (cI (t:=.val) rfl qp gi (tq s)) ⟨rfl,rfl,trivial⟩ ?_;refine gZ 1 rfl rfl rfl rfl (gI (i:=Int.toNat e.1) (off:=0) rfl gi (λ_=>rfl) rfl (dE (tq s)).2.2 rfl) ⟨rfl,trivial⟩ ?_;refine bO rfl rfl rfl (bA rfl) ⟨rfl,trivial⟩ ?_;refine bO rfl rfl rfl (bA rfl) ⟨rfl,trivial⟩ ?_;refine bO rfl rfl rfl (aU (t:=Ti) rfl iq cN O) ⟨rfl,rfl,trivial⟩ ?_;refine bO rfl rfl rfl (ap (t:=Ti) rfl cN rfl) ⟨rfl,trivial⟩ ?_;refine bO rfl rfl rfl (bg (t:=Ti) [(.tmp 37,_)] [u] rfl rfl dM (.cons rfl .int .nil) rfl rfl) ⟨rfl,trivial⟩ ?_;refine I0 0 rfl (λv=>[.sl v 3 Ti (x++[u])]) (λ_=>rfl) rfl rfl rfl (cp rfl rfl dM (am X)) ⟨rfl,rfl,trivial⟩ ?_;refine ve 12 [true,true,true,true,true,true,true,true,true,true,true,true] [40] [] [] rfl (by kernel_rfl) (by kernel_rfl) (by kernel_rfl) d4 (λvs hv hB=>?_);obtain⟨w0,UL,rfl,Ut⟩:=ay hv;obtain⟨w1,UK,rfl,Us⟩:=ay Ut;obtain⟨w2,UJ,rfl,Ur⟩:=ay Us;obtain⟨w3,UI,rfl,Up⟩:=ay Ur;obtain⟨w4,UH,rfl,Uo⟩:=ay Up;obtain⟨w5,UG,rfl,Un⟩:=ay Uo;obtain⟨w6,UF,rfl,Um⟩:=ay Un;obtain⟨w7,UE,rfl,zz⟩:=ay Um;obtain⟨w8,UD,rfl,qt⟩:=ay zz;obtain⟨w9,UB,rfl,J⟩:=ay qt;obtain⟨UC,UA,rfl,E⟩:=ay J;obtain⟨l,Uz,rfl,D⟩:=ay E;obtain rfl:=qU D;refine⟨[0,1,2],[.sl z8.1 28 .val (nN z8.2 0 y7.2.2.2.2),.obj c 74 (.agg (.pair (.rep Tl e.2.1) (.pair (I e.2.2.1) (.eq (.int .u64 e.2.2.2))))),.sl l 3 Ti (x++[u])],by kernel_rfl,by decide,?_⟩;refine va rfl rfl rfl rfl (cI (t:=.val) rfl qp gi (tq s)) ⟨rfl,rfl,trivial⟩ (by kernel_rfl) ?_;refine rz 2 rfl ?_;refine OW λo18=>?_;refine rz 1 rfl ?_;refine sQ rfl rfl (gq (i:=Int.toNat e.1) rfl gi rfl (ng (tq s)) rfl (.val o18) o18) ⟨rfl,rfl,trivial⟩ (by kernel_rfl) ?_;refine yl ?_;refine bQ (SE.fin (Γ':=[(0,Pt c),(5,.eq z8.1),(6,.rep Tl r4.1),(7,I y7.2.2.2.1)]) (Δ':=[.sl z8.1 28 .val (List.set (nN z8.2 0 y7.2.2.2.2) (Int.toNat e.1) l),.sl l 3 Ti (x++[u]),.obj c 74 (.agg (.pair (.rep Tl e.2.1) (.pair (I e.2.2.1) (.eq (.int .u64 e.2.2.2)))))]) [0,1,2] ⟨rfl,rfl,rfl,rfl,trivial⟩ rfl) ?_;exact λa w st=>⟨rfl,(l),(SE.fin (Γ':=[(0,Pt c),(5,.eq z8.1),(6,.rep Tl r4.1),(7,I y7.2.2.2.1)]) (Δ':=[.sl z8.1 28 .val (List.set (nN z8.2 0 y7.2.2.2.2) (Int.toNat e.1) l),.sl l 3 Ti (x++[u]),.obj c 74 (.agg (.pair (.rep Tl e.2.1) (.pair (I e.2.2.1) (.eq (.int .u64 e.2.2.2)))))]) [0,1,2] ⟨rfl,rfl,rfl,rfl,trivial⟩ rfl) a w st⟩
     .show JN _ _ [(0,Pt c),(5,.eq z8.1),(6,.rep Tl r4.1),(7,I y7.2.2.2.1)] ([.sl z8.1 28 .val (List.set (nN z8.2 0 y7.2.2.2.2) (Int.toNat e.1) l),.sl l 3 Ti (x++[u]),.obj c 74 (.agg (.pair (.rep Tl e.2.1) (.pair (I e.2.2.1) (.eq (.int .u64 e.2.2.2)))))]++(nF z8.2 0 y7.2.2.2.2).eraseIdx (Int.toNat e.1));refine bo 1 rfl ?_;refine bQ (BZ (pre:=[.obj c 74 (.agg (.pair (.rep Tl e.2.1) (.pair (I e.2.2.1) (.eq (.int .u64 e.2.2.2)))))]) (z:=z8) (i:=Int.toNat e.1) (C9 s).2) ?_;refine bn ?_;exact vc ((z8.1,AV z8.2 (Int.toNat e.1) l),(e.2.1,e.2.2.1,e.2.2.2,List.set y7.2.2.2.2 (Int.toNat e.1) (x++[u]))) h (kH [.obj c 74 (.agg (.pair (.rep Tl e.2.1) (.pair (I e.2.2.1) (.eq (.int .u64 e.2.2.2)))))] (xn 28 (z8.1,AV z8.2 (Int.toNat e.1) l) (List.set y7.2.2.2.2 (Int.toNat e.1) (x++[u]))) [0] ⟨rfl,rfl,rfl,rfl,trivial⟩ rfl)
   .refine ab (mq ?_);obtain⟨mc,M,h⟩:=aa h;refine jb (bB rfl M) ?_;refine aq (nl ?_);exact vc (y,(x9.1,x9.2.1,x9.2.2.1,mc,x9.2.2.2)) h (kH [.obj c 74 (.agg (.pair (.rep Tl x9.1) (.pair (I x9.2.1) (.eq (.int .u64 x9.2.2.1)))))] (xn 28 y x9.2.2.2) [0] ⟨rfl,rfl,rfl,rfl,trivial⟩ rfl)
  .refine xa ?_;exact vc (z8,(y7.1,y7.2.1,y7.2.2.1,y7.2.2.2.2)) h (kH [.obj c 74 (.agg (.pair (.rep Tl y7.1) (.pair (I y7.2.1) (.eq (.int .u64 y7.2.2.1)))))] (xn 28 z8 y7.2.2.2.2) [0] ⟨rfl,trivial⟩ rfl)
 .
  refine sr (mq ?_);refine aq (nt (aA ?_));refine bQ (II (pre:=[.obj c 74 (.agg (.pair (.rep Tl x5.1) (.pair (I x5.2.1) (.eq (.int .u64 x5.2.2.1)))))])) ?_;refine bQ (gY [4,5,41] ⟨rfl,rfl,rfl,trivial⟩) ?_;cases h;exact aK () [_] 1 ⟨rfl,trivial⟩ rfl
def fp(k:Nat)(r2:Int×bU):Nat->((List Int)×Int×Int×(List (List (List Int)))×Int)->Option ((List (List (List Int)))×(List Int)×Int×Int)
 |0,_=>none
 |n+1,c=>
  if 0 < c.2.2.2.2 then(((((if 0 < (c.2.2.2.1.length:Int) then((fa k (c.1,c.2.1,c.2.2.1) 3).bind λl=>
  some (l.2.1,l.2.2.1,l.2.2.2,l.1)) else(some (c.1,c.2.1,c.2.2.1,false))):Option ((List Int)×Int×Int×Bool)).bind λe=>
  if e.2.2.2=true then((ck ((c.2.2.2.1.length:Int) - 1)).bind λx=>
  (aM c.2.2.2.1 x).bind λu=>
  (ic k u).bind λr=>
  (cJ (bP (length c.2.2.2.1+length [r]))).bind λ_=>
  some (e.1,e.2.1,e.2.2.1,c.2.2.2.1++[r])) else((jM k (e.1,e.2.1,e.2.2.1) r2.1).bind λh=>
  (cJ (bP (length c.2.2.2.1+length [h.1]))).bind λ_=>
  some (h.2.1,h.2.2.1,h.2.2.2,c.2.2.2.1++[h.1]))):Option ((List Int)×Int×Int×(List (List (List Int))))).bind λj=>
  (ck (c.2.2.2.2 - 1)).bind λs=>
  fp k r2 n (j.1,j.2.1,j.2.2.1,j.2.2.2,s)) else(some (c.2.2.2.1,c.1,c.2.1,c.2.2.1))
def jN(k:Nat)(a0:bU)(a1:Int)(a2:Int):Option (ae×bU):=
 (fD k (a0.1,a0.2.1,a0.2.2) 1 a1).bind λr2=>
 (co k (r2.2.1,r2.2.2.1,r2.2.2.2) 3).bind λr3=>
 (gz k (r3.2.1,r3.2.2.1,r3.2.2.2) [0,1,1,2,r3.1]).bind λr4=>
 (co k (r4.2.1,r4.2.2.1,r4.2.2.2) 3).bind λr5=>
 (gz k (r5.2.1,r5.2.2.1,r5.2.2.2) [0,1,2,r5.1]).bind λr6=>
 (fD k (r6.2.1,r6.2.2.1,r6.2.2.2) 1 3).bind λr7=>
 (gz k (r7.2.1,r7.2.2.1,r7.2.2.2) [1,2,r7.1]).bind λr8=>
 (((fD k (r8.2.1,r8.2.2.1,r8.2.2.2) 1 a2).bind λe=>
 fp k r2 k (e.2.1,e.2.2.1,e.2.2.2,([]:(List (List (List Int)))),e.1)):Option ((List (List (List Int)))×(List Int)×Int×Int)).bind λc=>
 some ((r2.1,r4.1,r6.1,r8.1,c.1,[]),(c.2.1,c.2.2.1,c.2.2.2))
theorem uE(k:Nat)(a0:bU)(c:Nat)(a1:Int)(a2:Int)(r:ae×bU)(h:jN k a0 a1 a2=some r):
 dk Tryz.prog 65 [Pt c,I a1,I a2] [.obj c 74 (.agg (.pair (.rep Tl a0.1) (.pair (I a0.2.1) (.eq (.int .u64 a0.2.2)))))] (λ_:Unit=>(bD [.agg (.pair (I r.1.1) (.pair (I r.1.2.1) (.pair (I r.1.2.2.1) (.pair (I r.1.2.2.2.1) (.pair (.rep (.slice (.slice Tl)) r.1.2.2.2.2.1) (.eq (.slice none 0 0)))))))],[.obj c 74 (.agg (.pair (.rep Tl r.2.1) (.pair (I r.2.2.1) (.eq (.int .u64 r.2.2.2)))))])):=by
 unfold jN at h
 replace h:=aY h
 refine dk.of 67 Tryz.func65 rfl Tryz.ntmps65 rfl λS w0=>?_
 refine sr ?_
 refine aX rfl rfl rfl (bi rfl yu E0) trivial λb1=>?_
 refine nt ?_
 refine sr ?_
 iterate 2 refine mq ?_
 obtain⟨r2,Uz,h⟩:=aa h
 have UG:=iU k (a0.1,a0.2.1,a0.2.2) c 1 a1 r2 Uz
 refine fr 1 ?_
 refine kc (av [.tmp 10,.const (.int .i64 (1)),.tmp 11] rfl rfl K0 rfl UG) ?_
 iterate 2 refine mq ?_
 obtain⟨r3,Uy,h⟩:=aa h
 have UF:=cG k (r2.2.1,r2.2.2.1,r2.2.2.2) c 3 r3 Uy
 refine kb (av [.tmp 14,.const (.int .i64 (3))] rfl rfl vJ rfl UF) ?_
 refine cf rfl (bg (t:=Ti) [(.const (.int .i64 (0)),_),(.const (.int .i64 (1)),_),(.const (.int .i64 (1)),_),(.const (.int .i64 (2)),_),(.tmp 15,_)] [0,1,1,2,r3.1] rfl rfl dM (.cons rfl .int (.cons rfl .int (.cons rfl .int (.cons rfl .int (.cons rfl .int .nil))))) rfl rfl) ⟨rfl,rfl,rfl,rfl,rfl,trivial⟩ ?_
 obtain⟨r4,Ux,h⟩:=aa h
 have UE:=lr k (r3.2.1,r3.2.2.1,r3.2.2.2) c [0,1,1,2,r3.1] r4 Ux
 refine kb (av [.tmp 13,.tmp 16] rfl rfl Ot rfl UE) ?_
 iterate 2 refine mq ?_
 obtain⟨r5,Uw,h⟩:=aa h
 have UD:=cG k (r4.2.1,r4.2.2.1,r4.2.2.2) c 3 r5 Uw
 refine kb (av [.tmp 19,.const (.int .i64 (3))] rfl rfl vJ rfl UD) ?_
 refine cf rfl (bg (t:=Ti) [(.const (.int .i64 (0)),_),(.const (.int .i64 (1)),_),(.const (.int .i64 (2)),_),(.tmp 20,_)] [0,1,2,r5.1] rfl rfl dM (.cons rfl .int (.cons rfl .int (.cons rfl .int (.cons rfl .int .nil)))) rfl rfl) ⟨rfl,rfl,rfl,rfl,trivial⟩ ?_
 obtain⟨r6,Uu,h⟩:=aa h
 have UC:=lr k (r5.2.1,r5.2.2.1,r5.2.2.2) c [0,1,2,r5.1] r6 Uu
 refine kb (av [.tmp 18,.tmp 21] rfl rfl Ot rfl UC) ?_
 iterate 2 refine mq ?_
 obtain⟨r7,Ut,h⟩:=aa h
 have UB:=iU k (r6.2.1,r6.2.2.1,r6.2.2.2) c 1 3 r7 Ut
 refine kc (av [.tmp 24,.const (.int .i64 (1)),.const (.int .i64 (3))] rfl rfl K0 rfl UB) ?_
 refine jc (bg (t:=Ti) [(.const (.int .i64 (1)),_),(.const (.int .i64 (2)),_),(.tmp 25,_)] [1,2,r7.1] rfl rfl dM (.cons rfl .int (.cons rfl .int (.cons rfl .int .nil))) rfl rfl) ?_
 obtain⟨r8,Us,h⟩:=aa h
 have UA:=lr k (r7.2.1,r7.2.2.1,r7.2.2.2) c [1,2,r7.1] r8 Us
 refine kb (av [.tmp 23,.tmp 26] rfl rfl Ot rfl UA) ?_
 refine cf rfl (dZ [(0,.tmp 12,_),(1,.tmp 17,_),(2,.tmp 22,_),(3,.tmp 27,_)] rfl PS yu MZ (jF ⟨rfl,rfl,rfl,rfl,trivial⟩) rfl) ⟨rfl,rfl,rfl,rfl,trivial⟩ ?_
 refine aX rfl rfl rfl (bi rfl yu E0) trivial λb9=>?_
 refine aP rfl rfl (aN rfl g7 trivial rfl rfl) ⟨rfl,rfl,trivial⟩ ?_
 refine nt ?_
 refine aH (Z:=Value) (α:=(List (List (List Int)))×(List Int)×Int×Int) (λJ y=>[(6,Pt b1),(7,Pt b9)]) (λJ y=>[.obj b1 25 (.agg (.pair (I 0) (.pair (I 0) (.pair (I 0) (.pair (I 0) (.pair (.eq (.slice none 0 0)) (.eq (.slice none 0 0)))))))),.obj b9 25 (.agg (.pair (I r2.1) (.pair (I r4.1) (.pair (I r6.1) (.pair (I r8.1) (.pair (.eq J) (.eq (.slice none 0 0)))))))),.sl J 36 (.slice Tl) y.1,.obj c 74 (.agg (.pair (.rep Tl y.2.1) (.pair (I y.2.2.1) (.eq (.int .u64 y.2.2.2)))))]) h (λK h=>?_) (λJ y h=>?_)
 .
  refine sr ?_;iterate 2 refine mq ?_
  obtain⟨F,zz,h⟩:=aa h;refine fr 1 ?_;refine kc (av [.tmp 29,.const (.int .i64 (1)),.tmp 30] rfl rfl K0 rfl (iU k (r8.2.1,r8.2.2.1,r8.2.2.2) c 1 a2 F zz)) ?_;refine aq (nt (ak ?_));refine jd (SE.nil 36 (.slice Tl)) ?_;refine aI (λu e=>[(0,Pt c),(6,Pt b1),(7,Pt b9),(8,I e.2.2.2.2)]) (λu e=>[.obj c 74 (.agg (.pair (.rep Tl e.1) (.pair (I e.2.1) (.eq (.int .u64 e.2.2.1))))),.obj b1 25 (.agg (.pair (I 0) (.pair (I 0) (.pair (I 0) (.pair (I 0) (.pair (.eq (.slice none 0 0)) (.eq (.slice none 0 0)))))))),.obj b9 25 (.agg (.pair (I r2.1) (.pair (I r4.1) (.pair (I r6.1) (.pair (I r8.1) (.pair (.eq u) (.eq (.slice none 0 0)))))))),.sl u 36 (.slice Tl) e.2.2.2.1]) (fp k r2) k (.slice none 0 0) (F.2.1,F.2.2.1,F.2.2.2,([]:(List (List (List Int)))),F.1) (λ_=>rfl) h (SE.fin [1,3,2,0] ⟨rfl,rfl,rfl,rfl,trivial⟩ rfl) (λn u e h=>?_);unfold fp at h;refine aj (sr (mq ?_));refine jb (nv rfl) ?_;refine nt (ci h (λh=>?_) (λh=>?_))
  .refine sk (aH (Z:=Value) (α:=(List Int)×Int×Int×(List (List (List Int)))) (λD l=>[(0,Pt c),(6,Pt b1),(7,Pt b9),(8,I e.2.2.2.2)]) (λD l=>[.obj c 74 (.agg (.pair (.rep Tl l.1) (.pair (I l.2.1) (.eq (.int .u64 l.2.2.1))))),.obj b1 25 (.agg (.pair (I 0) (.pair (I 0) (.pair (I 0) (.pair (I 0) (.pair (.eq (.slice none 0 0)) (.eq (.slice none 0 0)))))))),.obj b9 25 (.agg (.pair (I r2.1) (.pair (I r4.1) (.pair (I r6.1) (.pair (I r8.1) (.pair (.eq D) (.eq (.slice none 0 0)))))))),.sl D 36 (.slice Tl) l.2.2.2]) h (λK h=>?_) (λD l h=>?_))
   .refine ak (aj (sr (fl eK ?_)));refine fr 2 ?_;refine lo lG ?_;refine fr 3 ?_;refine ka (mA rfl rfl AA) ?_;refine aq (nt ?_);refine aH (Z:=Unit) (α:=(List Int)×Int×Int×Bool) (λQ j=>[(0,Pt c),(6,Pt b1),(7,Pt b9),(8,I e.2.2.2.2),(9,I (e.2.2.2.1.length:Int)),(44,.eq (.bool j.2.2.2))]) (λQ j=>[.obj c 74 (.agg (.pair (.rep Tl j.1) (.pair (I j.2.1) (.eq (.int .u64 j.2.2.1))))),.obj b1 25 (.agg (.pair (I 0) (.pair (I 0) (.pair (I 0) (.pair (I 0) (.pair (.eq (.slice none 0 0)) (.eq (.slice none 0 0)))))))),.obj b9 25 (.agg (.pair (I r2.1) (.pair (I r4.1) (.pair (I r6.1) (.pair (I r8.1) (.pair (.eq u) (.eq (.slice none 0 0)))))))),.sl u 36 (.slice Tl) e.2.2.2.1]) h (λK h=>?_) (λQ j h=>?_)
    .refine ab (mq ?_);refine jb (nv rfl) ?_;refine mq ?_;refine cK (s:=41) rfl (λhb=>?_) (λhb=>?_)
     .replace h:=fg (tJ hb) h;refine gm ?_;obtain⟨E,qt,h⟩:=aa h;refine fr 2 ?_;refine oI rfl rfl rfl rfl rfl rfl (av [.tmp 42,.const (.int .i64 (3))] rfl rfl Ov rfl (jo k (e.1,e.2.1,e.2.2.1) c 3 E qt)) ⟨rfl,rfl,trivial⟩ ?_;refine pt (nl ?_);exact jz ((),(E.2.1,E.2.2.1,E.2.2.2,E.1)) h [0,3,2,1]
     .replace h:=cY (tK hb) h;iterate 2 refine gn ?_
      refine pf (nl ?_);exact jz ((),(e.1,e.2.1,e.2.2.1,false)) h [2,3,1,0]
    .refine cv h (λh=>?_) (λh=>?_)
     .refine aj (cL ?_);refine da (aD rfl eK) ?_;refine ea 2 (ax rfl lG ny rfl) ?_;refine da (aD rfl eK) ?_;refine ea 2 (ax rfl lG ny rfl) ?_;refine dm ?_;obtain⟨Uo,X,h⟩:=aa h;refine db (eg rfl X) ?_;obtain⟨Un,M,h⟩:=aa h;refine eb 3 (cI (t:=(.slice Tl)) rfl AA yN M) ?_;refine ea 3 (gI (i:=Int.toNat Uo) (off:=0) rfl yN (λ_=>rfl) rfl (dE M).2.2 rfl) ?_;obtain⟨O,mw,h⟩:=aa h;refine da (DL (av [.tmp 52] rfl rfl S5 rfl (sq k Un O mw))) ?_;refine da (bg (t:=(.slice Tl)) [(.tmp 53,_)] [O] rfl rfl AU (.cons rfl .rep .nil) rfl rfl) ?_;refine df d4 ?_;obtain⟨UI,gw,h⟩:=aa h;refine fr 3 ?_;refine dY rfl rfl rfl (cp rfl rfl AU (am gw)) ⟨rfl,rfl,trivial⟩ λUr=>?_;refine fl eK ?_;refine sR λo25=>?_;refine fr 3 ?_;refine aP rfl rfl (aN rfl lG o25 rfl rfl) ⟨rfl,rfl,trivial⟩ ?_;refine nt (gQ (cy (dF (an ?_))));exact jz (Ur,(j.1,j.2.1,j.2.2.1,e.2.2.2.1++[O])) h [2,3,0,1]
     .refine sk (cL ?_);refine da (aD rfl eK) ?_;refine ea 2 (ax rfl lG ny rfl) ?_;refine dm ?_;refine da (aD rfl gW) ?_;refine ea 2 (ax rfl cN ny rfl) ?_;obtain⟨x,mc,h⟩:=aa h;refine D6 0 rfl rfl rfl rfl (av [.tmp 59,.tmp 61] rfl rfl QT rfl (uC k (j.1,j.2.1,j.2.2.1) c r2.1 x mc)) ⟨rfl,rfl,trivial⟩ ?_;refine da (bg (t:=(.slice Tl)) [(.tmp 62,_)] [x.1] rfl rfl AU (.cons rfl .rep .nil) rfl rfl) ?_;refine D7 (Δ':=[.obj b1 25 (.agg (.pair (I 0) (.pair (I 0) (.pair (I 0) (.pair (I 0) (.pair (.eq (.slice none 0 0)) (.eq (.slice none 0 0)))))))),.obj b9 25 (.agg (.pair (I r2.1) (.pair (I r4.1) (.pair (I r6.1) (.pair (I r8.1) (.pair (.eq u) (.eq (.slice none 0 0)))))))),.sl u 36 (.slice Tl) e.2.2.2.1,.obj c 74 (.agg (.pair (.rep Tl x.2.1) (.pair (I x.2.2.1) (.eq (.int .u64 x.2.2.2)))))]) (by kernel_rfl) d4 (by kernel_rfl) ?_;obtain⟨UH,Y,h⟩:=aa h;refine fr 2 ?_;refine dY rfl rfl rfl (cp rfl rfl AU (am Y)) ⟨rfl,rfl,trivial⟩ λUp=>?_;refine fl eK ?_;refine sR λo29=>?_;refine fr 2 ?_;refine aP rfl rfl (aN rfl lG o29 rfl rfl) ⟨rfl,rfl,trivial⟩ ?_;refine aE (bn ?_);exact jz (Up,(x.2.1,x.2.2.1,x.2.2.2,e.2.2.2.1++[x.1])) h [3,2,0,1]
   .refine ab (mq ?_);obtain⟨Um,U,h⟩:=aa h;refine jb (eg rfl U) ?_;refine aq (nl ?_);exact jz (D,(l.1,l.2.1,l.2.2.1,l.2.2.2,Um)) h [0,1,2,3]
  .refine xa ?_;exact jz (u,(e.2.2.2.1,e.1,e.2.1,e.2.2.1)) h [1,2,3,0]
 .
  refine sr (fr 1 ?_);refine fr 2 ?_;refine eG (nn (off:=4) [] trivial rfl rfl) ?_;refine lo g7 ?_;refine fr 1 ?_;refine aP rfl rfl (aN rfl g7 trivial rfl rfl) ⟨rfl,rfl,trivial⟩ ?_;refine nt (aA (bQ (SE.fin (Γ':=[(6,_)]) [2,0,1] ⟨rfl,trivial⟩ rfl) ?_));cases h;exact aK () [.agg (.pair (I r2.1) (.pair (I r4.1) (.pair (I r6.1) (.pair (I r8.1) (.pair (.rep (.slice (.slice Tl)) y.1) (.eq (.slice none 0 0)))))))] 1 ⟨⟨_,_,_,_,_,rfl,(.tail _ (.head _)),g7,(tC),rfl⟩,trivial⟩ rfl
def eB(k:Nat)(r2:ae×bU):Nat->((List Int)×Int×Int×(List bz)×Int)->Option ((List bz)×(List Int)×Int×Int)
 |0,_=>none
 |n+1,y7=>
  if 0 < y7.2.2.2.2 then((ib k (y7.1,y7.2.1,y7.2.2.1) (r2.1.1,r2.1.2.1,r2.1.2.2.1,r2.1.2.2.2.1,r2.1.2.2.2.2.1,())).bind λr9=>
  (cJ (bP (length y7.2.2.2.1+length [r9.1]))).bind λ_=>
  (ck (y7.2.2.2.2 - 1)).bind λc=>
  eB k r2 n (r9.2.1,r9.2.2.1,r9.2.2.2,y7.2.2.2.1++[r9.1],c)) else(some (y7.2.2.2.1,y7.1,y7.2.1,y7.2.2.1))
def f5(k:Nat)(a0:bU)(a1:Int)(a2:Int):Option (ae×bU):=
 (jN k (a0.1,a0.2.1,a0.2.2) a1 a2).bind λr2=>
 (((co k (r2.2.1,r2.2.2.1,r2.2.2.2) 4).bind λr6=>
 eB k r2 k (r6.2.1,r6.2.2.1,r6.2.2.2,([]:(List bz)),r6.1)):Option ((List bz)×(List Int)×Int×Int)).bind λx4=>
 some ((r2.1.1,r2.1.2.1,r2.1.2.2.1,r2.1.2.2.2.1,r2.1.2.2.2.2.1,x4.1),(x4.2.1,x4.2.2.1,x4.2.2.2))
theorem sj(k:Nat)(a0:bU)(c:Nat)(a1:Int)(a2:Int)(r:ae×bU)(h:f5 k a0 a1 a2=some r):
 dk Tryz.prog 33 [Pt c,I a1,I a2] [.obj c 74 (.agg (.pair (.rep Tl a0.1) (.pair (I a0.2.1) (.eq (.int .u64 a0.2.2)))))] (λ_:Unit=>(bD [.rep au r.1],[.obj c 74 (.agg (.pair (.rep Tl r.2.1) (.pair (I r.2.2.1) (.eq (.int .u64 r.2.2.2)))))])):=by
 unfold f5 at h
 replace h:=aY h
 refine dk.of 28 Tryz.func33 rfl Tryz.ntmps33 rfl λS w0=>?_
 refine sr ?_
 refine aX rfl rfl rfl (bi rfl yu E0) trivial λb1=>?_
 refine nt ?_
 refine sr ?_
 iterate 3 refine mq ?_
 obtain⟨r2,D,h⟩:=aa h
 have E:=uE k (a0.1,a0.2.1,a0.2.2) c a1 a2 r2 D
 refine fr 1 ?_
 refine kc (av [.tmp 9,.tmp 10,.tmp 11] rfl rfl SU rfl E) ?_
 refine aX rfl rfl rfl (bi rfl yu E0) trivial λb3=>?_
 refine aP rfl rfl (aN rfl g7 trivial rfl rfl) ⟨rfl,rfl,trivial⟩ ?_
 refine nt ?_
 refine aH (Z:=Value) (α:=(List bz)×(List Int)×Int×Int) (λz5 x4=>[(6,Pt b1),(7,Pt b3)]) (λz5 x4=>[.obj b1 25 (.agg (.pair (I 0) (.pair (I 0) (.pair (I 0) (.pair (I 0) (.pair (.eq (.slice none 0 0)) (.eq (.slice none 0 0)))))))),.obj b3 25 (.agg (.pair (I r2.1.1) (.pair (I r2.1.2.1) (.pair (I r2.1.2.2.1) (.pair (I r2.1.2.2.2.1) (.pair (.rep (.slice (.slice Tl)) r2.1.2.2.2.2.1) (.eq z5))))))),.sl z5 27 aZ x4.1,.obj c 74 (.agg (.pair (.rep Tl x4.2.1) (.pair (I x4.2.2.1) (.eq (.int .u64 x4.2.2.2)))))]) h (λK h=>?_) (λz5 x4 h=>?_)
 .
  refine sr (mq ?_);obtain⟨r6,y,h⟩:=aa h;refine fr 1 ?_;refine kb (av [.tmp 13,.const (.int .i64 (4))] rfl rfl vJ rfl (cG k (r2.2.1,r2.2.2.1,r2.2.2.2) c 4 r6 y)) ?_;refine aq (nt (ak ?_));refine jd (SE.nil 27 aZ) ?_;refine aI (λz8 y7=>[(0,Pt c),(6,Pt b1),(7,Pt b3),(8,I y7.2.2.2.2)]) (λz8 y7=>[.obj c 74 (.agg (.pair (.rep Tl y7.1) (.pair (I y7.2.1) (.eq (.int .u64 y7.2.2.1))))),.obj b1 25 (.agg (.pair (I 0) (.pair (I 0) (.pair (I 0) (.pair (I 0) (.pair (.eq (.slice none 0 0)) (.eq (.slice none 0 0)))))))),.obj b3 25 (.agg (.pair (I r2.1.1) (.pair (I r2.1.2.1) (.pair (I r2.1.2.2.1) (.pair (I r2.1.2.2.2.1) (.pair (.rep (.slice (.slice Tl)) r2.1.2.2.2.2.1) (.eq z8))))))),.sl z8 27 aZ y7.2.2.2.1]) (eB k r2) k (.slice none 0 0) (r6.2.1,r6.2.2.1,r6.2.2.2,([]:(List bz)),r6.1) (λ_=>rfl) h (SE.fin [1,3,2,0] ⟨rfl,rfl,rfl,rfl,trivial⟩ rfl) (λn z8 y7 h=>?_);unfold eB at h;refine aj (sr (mq ?_));refine jb (nv rfl) ?_;refine nt (ci h (λh=>?_) (λh=>?_))
  .refine sk (aj (ak (cL ?_)));refine da (aD rfl qi) ?_;refine ea 2 (ax rfl AP ny rfl) ?_;refine dm ?_;refine ea 2 (ax rfl g7 (tC) rfl) ?_;obtain⟨r9,u,h⟩:=aa h;refine D6 0 rfl rfl rfl rfl (bI (N:=[(.tmp 21,Pt c),(.tmp 22,.agg (.pair (I r2.1.1) (.pair (I r2.1.2.1) (.pair (I r2.1.2.2.1) (.pair (I r2.1.2.2.2.1) (.pair (.rep (.slice (.slice Tl)) r2.1.2.2.2.2.1) (.eq z8)))))))]) (av [.tmp 21,.tmp 22] rfl rfl SR rfl (so k (y7.1,y7.2.1,y7.2.2.1) c (r2.1.1,r2.1.2.1,r2.1.2.2.1,r2.1.2.2.2.1,r2.1.2.2.2.2.1,()) r9 u)) λ_ _ _ hn=>⟨hn.1,(Lu (t:=(.pair Ti (.pair Ti (.pair Ti (.pair Ti (.pair (.slice (.slice Tl)) .ign)))))) (x:=(r2.1.1,r2.1.2.1,r2.1.2.2.1,r2.1.2.2.2.1,r2.1.2.2.2.2.1,())) (oK (jv .int) (oK (jv .int) (oK (jv .int) (oK (jv .int) (oK (jv .rep) LZ))))) hn.2.1),trivial⟩) ⟨rfl,rfl,trivial⟩ ?_;refine da (bg (t:=aZ) [(.tmp 23,_)] [r9.1] rfl rfl JH (.cons rfl .rep .nil) rfl rfl) ?_;refine D7 (Δ':=[.obj b1 25 (.agg (.pair (I 0) (.pair (I 0) (.pair (I 0) (.pair (I 0) (.pair (.eq (.slice none 0 0)) (.eq (.slice none 0 0)))))))),.obj b3 25 (.agg (.pair (I r2.1.1) (.pair (I r2.1.2.1) (.pair (I r2.1.2.2.1) (.pair (I r2.1.2.2.2.1) (.pair (.rep (.slice (.slice Tl)) r2.1.2.2.2.2.1) (.eq z8))))))),.sl z8 27 aZ y7.2.2.2.1,.obj c 74 (.agg (.pair (.rep Tl r9.2.1) (.pair (I r9.2.2.1) (.eq (.int .u64 r9.2.2.2)))))]) (by kernel_rfl) d4 (by kernel_rfl) ?_;obtain⟨F,j,h⟩:=aa h;refine fr 2 ?_;refine dY rfl rfl rfl (cp rfl rfl JH (am j)) ⟨rfl,rfl,trivial⟩ λs=>?_;refine fl qi ?_;refine sR λo12=>?_;refine fr 2 ?_;refine aP rfl rfl (aN rfl AP o12 rfl rfl) ⟨rfl,rfl,trivial⟩ ?_;refine aE (aQ (tn (ab (mq ?_))));obtain⟨l,e,h⟩:=aa h;refine jb (eg rfl e) ?_;refine aq (nl ?_);exact jz (s,(r9.2.1,r9.2.2.1,r9.2.2.2,y7.2.2.2.1++[r9.1],l)) h [3,2,0,1]
  .refine xa ?_;exact jz (z8,(y7.2.2.2.1,y7.1,y7.2.1,y7.2.2.1)) h [1,2,3,0]
 .
  refine sr (fr 1 ?_);refine fr 2 ?_;refine eG (nn (off:=5) [] trivial rfl rfl) ?_;refine lo g7 ?_;refine fr 1 ?_;refine aP rfl rfl (aN rfl g7 trivial rfl rfl) ⟨rfl,rfl,trivial⟩ ?_;refine nt (aA (bQ (ir (a:=.agg (.pair (I r2.1.1) (.pair (I r2.1.2.1) (.pair (I r2.1.2.2.1) (.pair (I r2.1.2.2.2.1) (.pair (.rep (.slice (.slice Tl)) r2.1.2.2.2.2.1) (Rs aZ x4.1))))))) (a':=.rep au (r2.1.1,r2.1.2.1,r2.1.2.2.1,r2.1.2.2.2.1,r2.1.2.2.2.2.1,x4.1)) (jv (.agg (.pair .int (.pair .int (.pair .int (.pair .int (.pair .rep .rep)))))))) ?_));refine bQ (SE.fin (Γ':=[(6,_)]) [2,0,1] ⟨rfl,trivial⟩ rfl) ?_;cases h;exact aK () [.rep au (r2.1.1,r2.1.2.1,r2.1.2.2.1,r2.1.2.2.2.1,r2.1.2.2.2.2.1,x4.1)] 1 ⟨⟨_,_,_,_,_,rfl,(.tail _ (.head _)),g7,(tC),rfl⟩,trivial⟩ rfl
def lm(k:Nat)(a0:ae):Option ((List Int)×Int):=
 (iD k a0 ([]:(List Int)) ([]:(List Int)) ([]:(List Int))).bind λr2=>
 fP r2.1 (if¬(r2.2.2=0) then(some (([]:(List Int)),r2.2.2)) else(none)) (λq3=>if¬(r2.2.2=0) then(some (([]:(List Int)),r2.2.2)) else((jL k r2.2.1).bind λr5=>
 (d5 k r5).bind λr6=>
 some (r6,0)))
theorem vH(k:Nat)(a0:ae)(r:(List Int)×Int)(h:lm k a0=some r):
 bV (dH Tryz.prog) 31 [.rep au a0] [] (λ_:Unit=>(bD [.rep Tl r.1,I r.2],[])):=by
 unfold lm at h
 replace h:=aY h
 refine bV.of 19 Tryz.func31 rfl Tryz.ntmps31 rfl λS w0=>?_
 refine sr ?_
 refine bx λb1=>?_
 refine cq ?_
 refine cq ?_
 refine nt ?_
 refine sr ?_
 refine lo g7 ?_
 obtain⟨r2,l,h⟩:=aa h
 have c:=kB k a0 ([]:(List Int)) ([]:(List Int)) ([]:(List Int)) r2 l
 rcases hr:r2.1 with _ |q3
 .
  rw [hr] at h c;replace h:=uP h;refine aJ (Δ:=[]) (F:=_) (λ_ _ _=>ag rfl _) rfl rfl (bI (N:=[(.tmp 8,.rep au a0),(.const (.slice none 0 0),.eq (.slice none 0 0)),(.const (.slice none 0 0),.eq (.slice none 0 0)),(.const (.slice none 0 0),.eq (.slice none 0 0))]) (aR [.tmp 8,.const (.slice none 0 0),.const (.slice none 0 0),.const (.slice none 0 0)] rfl rfl zI rfl c) λ_ _ _ hn=>⟨hn.1,(aC (t:=Tl) (x:=([]:(List Int))) .nil rfl rfl hn.2.1),(aC (t:=Tl) (x:=([]:(List Int))) .nil rfl rfl hn.2.2.1),(aC (t:=Tl) (x:=([]:(List Int))) .nil rfl rfl hn.2.2.2.1),trivial⟩) ⟨rfl,rfl,rfl,rfl,trivial⟩ λ_=>?_;refine mq ?_;refine xr ?_;refine xr ?_;refine xr ?_;refine aq ?_;refine aq ?_;refine aq (nt (aj (sr ?_)));refine mq ?_;refine jb (fh rfl) ?_;refine nt (cn h (λh=>?_) (λh=>?_))
  .refine sr (mq ?_);refine cq ?_;refine aq (nt (rx ?_));refine bQ (eE (t:=Tl) (x:=([]:(List Int))) 2 rfl .nil rfl rfl) ?_;cases h;exact rb
  .cases h
 .
  rw [hr] at h c;replace h:=uO h;refine aJ (Δ:=[]) (F:=_) (λ_ _ _=>ag rfl _) rfl rfl (bI (N:=[(.tmp 8,.rep au a0),(.const (.slice none 0 0),.eq (.slice none 0 0)),(.const (.slice none 0 0),.eq (.slice none 0 0)),(.const (.slice none 0 0),.eq (.slice none 0 0))]) (aR [.tmp 8,.const (.slice none 0 0),.const (.slice none 0 0),.const (.slice none 0 0)] rfl rfl zI rfl c) λ_ _ _ hn=>⟨hn.1,(aC (t:=Tl) (x:=([]:(List Int))) .nil rfl rfl hn.2.1),(aC (t:=Tl) (x:=([]:(List Int))) .nil rfl rfl hn.2.2.1),(aC (t:=Tl) (x:=([]:(List Int))) .nil rfl rfl hn.2.2.2.1),trivial⟩) ⟨rfl,rfl,rfl,rfl,trivial⟩ λz4=>?_;refine mq ?_;refine xr ?_;refine xr ?_;refine xr ?_;refine aq ?_;refine aq ?_;refine aq (nt (aj (sr ?_)));refine mq ?_;refine jb (fh rfl) ?_;refine nt (cn h (λh=>?_) (λh=>?_))
  .refine sr (mq ?_);refine cq ?_;refine aq (nt (rx ?_));refine bQ (eE (t:=Tl) (x:=([]:(List Int))) 2 rfl .nil rfl rfl) ?_;cases h;exact rb
  .refine sk (sr (mq ?_));obtain⟨r5,j,h⟩:=aa h;refine jb (av [.tmp 16,.func 72] rfl rfl QA rfl (uo k r2.2.1 r5 j)) ?_;obtain⟨r6,e,h⟩:=aa h;refine ja (av [.tmp 17] rfl rfl Ia rfl (fV k r5 r6 e)) ?_;refine aq ?_;refine cq (nt (aA ?_));cases h;exact rb
def dw(k:Nat)(a0:ae)(a2:(List Int))(r2:(List (List Int))×Int):Nat->Int->Option (Except (Bool×Bool) Unit)
 |0,_=>none
 |n+1,y8=>
  if y8 < (a0.2.2.2.2.2.length:Int) then((aM a0.2.2.2.2.2 y8).bind λc=>
  (((uF k a2 y8).bind λr=>
  if r < 0 then((aM r2.1 c.2.1).bind λj=>
  (aM j c.1).bind λh=>
  some (!decide (c.2.2=(decide (a0.2.2.1≤h))))) else(some false)):Option (Bool)).bind λl=>
  if l=true then(some (.error (false,true))) else((ck (y8+1)).bind λe=>
  dw k a0 a2 r2 n e)) else(some (.ok ()))
def iT(k:Nat)(a0:ae)(a1:(List Int))(a2:(List Int)):Option (Bool×Bool):=
 (iw k a0 a1).bind λr2=>
 ((if¬(r2.2=0) then(some true) else((mF k a0 r2.1).bind λr5=>
 some (!r5))):Option (Bool)).bind λx3=>
 if x3=true then(some (false,false)) else(bE (α:=Unit) (dw k a0 a2 r2 k 0) (some) λ_=>
 some (true,true))
theorem tj(k:Nat)(a0:ae)(a1:(List Int))(a2:(List Int))(r:Bool×Bool)(h:iT k a0 a1 a2=some r):
 bV (dH Tryz.prog) 35 [.rep au a0,.rep Tl a1,.rep Tl a2] [] (λ_:Unit=>(bD [.eq (.bool r.1),.eq (.bool r.2)],[])):=by
 unfold iT at h
 replace h:=aY h
 refine bV.of 59 Tryz.func35 rfl Tryz.ntmps35 rfl λS w0=>?_
 refine sr ?_
 refine bx λb1=>?_
 refine cq ?_
 refine cq ?_
 refine nt ?_
 refine sr ?_
 refine lo g7 ?_
 refine mq ?_
 obtain⟨r2,Q,h⟩:=aa h
 have U:=pz k a0 a1 r2 Q
 refine jb (aR [.tmp 13,.tmp 14] rfl rfl QG rfl U) ?_
 refine mq ?_
 refine xr ?_
 refine xr ?_
 refine aq ?_
 refine aq ?_
 refine nt ?_
 refine aj ?_
 refine aH (Z:=Unit) (α:=Bool) (λz4 x3=>[(2,.rep Tl a2),(3,Pt b1),(8,.rep (.slice Tl) r2.1),(25,.eq (.bool x3))]) (λz4 x3=>[.obj b1 25 (.rep au a0)]) h (λK h=>?_) (λz4 x3 h=>?_)
 .
  refine ab (mq ?_);refine jb (fh rfl) ?_;refine mq ?_;refine cK (s:=20) rfl (λhb=>?_) (λhb=>?_)
  .replace h:=fg (RQ hb) h;iterate 4 refine gn ?_
   refine pt (nl ?_);exact jz ((),true) h [0]
  .replace h:=cY (Oc hb) h;refine oI rfl rfl rfl rfl rfl rfl (ax rfl g7 (tC) rfl) ⟨rfl,trivial⟩ ?_;refine gm ?_;obtain⟨r5,O,h⟩:=aa h;refine gb (av [.tmp 21,.tmp 22] rfl rfl SS rfl (xF k a0 r2.1 r5 O)) ?_;refine ga (iz rfl) ?_;refine pf (nl ?_);exact jz ((), !r5) h [0]
 .
  refine cv h (λh=>?_) (λh=>?_)
  .refine sr (cq ?_);refine cq (nt (rx ?_));cases h;exact rb
  .refine sk (dB (Z:=Unit) (α:=Unit) (λz7 x6=>[]) (λz7 x6=>[]) (λe=>e=r) h (λe h=>Option.some.inj h) (λK hR h=>?_) (λz7 x6 h=>?_))
   .refine sr (cq (nt (ak ?_)));refine aI (λz9 y8=>[(2,.rep Tl a2),(3,Pt b1),(8,.rep (.slice Tl) r2.1),(10,I y8)]) (λz9 y8=>[.obj b1 25 (.rep au a0)]) (dw k a0 a2 r2) k () 0 (λ_=>rfl) h (SE.fin [0] ⟨rfl,rfl,rfl,rfl,trivial⟩ rfl) (λn z9 y8 h=>?_);unfold dw at h;refine aj (sr (mq ?_));refine fl qi ?_;refine lo AP ?_;refine ol OQ ?_;refine jb (bF rfl) ?_;refine nt (ci h (λh=>?_) (λh=>?_))
    .refine sk (aj (ak (sr (fl qi ?_))));refine lo AP ?_;refine mq ?_;obtain⟨J,y,h⟩:=aa h;refine jb (aU (t:=aZ) rfl OQ qB y) ?_;refine ja (ap (t:=aZ) rfl qB rfl) ?_;refine aX rfl rfl rfl (bi rfl AC It) trivial λY=>?_;refine aP rfl rfl (aN rfl qB rfl rfl rfl) ⟨rfl,rfl,trivial⟩ ?_;refine nt (aH (Z:=Unit) (α:=Bool) (λj c=>[(2,.rep Tl a2),(3,Pt b1),(8,.rep (.slice Tl) r2.1),(10,I y8),(58,.eq (.bool c))]) (λj c=>[.obj b1 25 (.rep au a0)]) h (λK h=>?_) (λj c h=>?_))
     .refine cL ?_;refine dm ?_;refine dm ?_;obtain⟨M,D,h⟩:=aa h;refine db (av [.tmp 38,.tmp 39] rfl rfl SQ rfl (EC k a2 y8 M D)) ?_;refine db (bF rfl) ?_;refine tP rfl rfl rfl (bA rfl) ⟨rfl,trivial⟩ (λhb=>?_) (λhb=>?_)
      .replace h:=fg (tJ hb) h;refine cF rfl rfl rfl rfl rfl (aD rfl H4) ⟨rfl,rfl,trivial⟩ ?_;refine gR 0 rfl rfl rfl rfl rfl rfl (ax rfl TP ny rfl) ⟨rfl,rfl,trivial⟩ ?_;refine cF rfl rfl rfl rfl rfl (bA rfl) ⟨rfl,rfl,trivial⟩ ?_;refine cF rfl rfl rfl rfl rfl (aD rfl BD) ⟨rfl,rfl,trivial⟩ ?_;refine gR 0 rfl rfl rfl rfl rfl rfl (ax rfl cN ny rfl) ⟨rfl,rfl,trivial⟩ ?_;obtain⟨X,x,h⟩:=aa h;refine cF rfl rfl rfl rfl rfl (aU (t:=Tl) rfl qp gi x) ⟨rfl,rfl,rfl,trivial⟩ ?_;refine cF rfl rfl rfl rfl rfl (ap (t:=Tl) rfl gi rfl) ⟨rfl,rfl,trivial⟩ ?_;refine cF rfl rfl rfl rfl rfl (aD rfl BE) ⟨rfl,rfl,trivial⟩ ?_;refine gR 0 rfl rfl rfl rfl rfl rfl (ax rfl cN ny rfl) ⟨rfl,rfl,trivial⟩ ?_;obtain⟨F,u,h⟩:=aa h;refine cF rfl rfl rfl rfl rfl (aU (t:=Ti) rfl iq cN u) ⟨rfl,rfl,rfl,trivial⟩ ?_;refine cF rfl rfl rfl rfl rfl (ap (t:=Ti) rfl cN rfl) ⟨rfl,rfl,trivial⟩ ?_;refine cF rfl rfl rfl rfl rfl (aD rfl xQ) ⟨rfl,rfl,trivial⟩ ?_;refine gR 1 rfl rfl rfl rfl rfl rfl (ax rfl cN ny rfl) ⟨rfl,rfl,trivial⟩ ?_;refine cF rfl rfl rfl rfl rfl (kp rfl) ⟨rfl,rfl,rfl,trivial⟩ ?_;refine df d4 ?_;refine gb (G2 rfl U4) ?_;refine pt (nl ?_);exact jz ((), !decide (J.2.2=(decide (a0.2.2.1≤F)))) h [1]
      .replace h:=cY (tK hb) h;iterate 14 refine dg ?_
       refine df d4 ?_;refine gn ?_;refine pf (nl ?_);exact jz ((),false) h [1]
     .refine cv h (λh=>?_) (λh=>?_)
      .refine sr (cq ?_);refine cq (nt (aA (br (bJ (bC ?_)))));obtain rfl:=hR _ h;exact rb
      .refine be (aQ (tn (ab (mq ?_))));obtain⟨E,l,h⟩:=aa h;refine jb (bB rfl l) ?_;refine aq (nl ?_);exact jz ((),E) h [0]
    .refine xa ?_;exact jz ((),()) h []
   .refine sr (cq ?_);refine cq (nt (aA ?_));cases h;exact rb
def dP(k:Nat)(r3:ae×bU)(r5:(List (List Int))):Nat->((List (List Int))×Int)->Option (Except Bool (List (List Int)))
 |0,_=>none
 |n+1,y8=>
  if y8.2 < (r5.length:Int) then(bE (α:=(List (List Int))) ((aM r5 y8.2).bind λl=>
  (iT k r3.1 l ([]:(List Int))).bind λh=>
  if¬(h.2=true) then(some (.error false)) else(if h.1=true then((aM r5 y8.2).bind λc=>
  (cJ (bP (length y8.1+length [c]))).bind λ_=>
  some (.ok (y8.1++[c]))) else(some (.ok y8.1)))) (λe=>some (.error e)) λr=>
  (ck (y8.2+1)).bind λj=>
  dP k r3 r5 n (r,j)) else(some (.ok y8.1))
def dO(k:Nat)(e:(List (List Int))×Bool):Nat->((List Int)×Int)->Option (List Int)
 |0,_=>none
 |n+1,c=>
  if c.2 < (e.1.length:Int) then((((aM e.1 c.2).bind λl=>
  if(l.length:Int) < (c.1.length:Int) then((aM e.1 c.2).bind λj=>
  some j) else(some c.1)):Option ((List Int))).bind λr=>
  (ck (c.2+1)).bind λh=>
  dO k e n (r,h)) else(some c.1)
def lS(k:Nat)(a0:(List Int)):Option Bool:=
 (lT k a0).bind λr1=>
 (f5 k (r1.1,r1.2.1,r1.2.2) 4 4).bind λr3=>
 (kz k k r3.1.1 ([]:(List Int))).bind λr5=>
 bE (α:=(List (List Int))) (dP k r3 r5 k (([]:(List (List Int))),0)) (some) λx6=>
 (jj k r3.1).bind λh=>
 (lm k r3.1).bind λe=>
 ((if¬(h.2=0) then(some (x6,true)) else((ek k h.1 x6).bind λy=>
 some (x6, !y))):Option ((List (List Int))×Bool)).bind λc=>
 if c.2=true then(some false) else(if(c.1.length:Int)=0 then(((if e.2=9 then(if(e.1.length:Int)=0 then((oq k).bind λx=>
 some x) else(some false)) else(some false)):Option (Bool)).bind λr=>
 some r) else((aM c.1 0).bind λn=>
 ((dO k c k (n,0)):Option ((List Int))).bind λl=>
 ((if e.2=0 then((eY k e.1 l).bind λu=>
 if u=true then((oq k).bind λs=>
 some s) else(some false)) else(some false)):Option (Bool)).bind λj=>
 some j))
theorem uB(k:Nat)(a0:(List Int))(r:Bool)(h:lS k a0=some r):
 bV (dH Tryz.prog) 7 [.rep Tl a0] [] (λ_:Unit=>(bD [.eq (.bool r)],[])):=by
 unfold lS at h
 replace h:=aY h
 refine bV.of 108 Tryz.func7 rfl Tryz.ntmps7 rfl λS w0=>?_
 refine sr ?_
 refine cq ?_
 refine nt ?_
 refine sr ?_
 refine mq ?_
 obtain⟨r1,UN,h⟩:=aa h
 have UQ:=uD k a0 r1 UN
 refine aX rfl rfl rfl (av [.tmp 15] rfl rfl Tt rfl UQ) ⟨rfl,trivial⟩ λb2=>?_
 obtain⟨r3,UM,h⟩:=aa h
 have UP:=sj k (r1.1,r1.2.1,r1.2.2) b2 4 4 r3 UM
 refine kc (av [.tmp 16,.const (.int .i64 (4)),.const (.int .i64 (4))] rfl rfl Tf rfl UP) ?_
 refine aX rfl rfl rfl (bi rfl yu E0) trivial λb4=>?_
 refine aP rfl rfl (aN rfl g7 rfl rfl rfl) ⟨rfl,rfl,trivial⟩ ?_
 refine nt ?_
 refine sr ?_
 refine cq ?_
 refine nt ?_
 refine sr ?_
 refine fl gW ?_
 refine lo cN ?_
 obtain⟨r5,UL,h⟩:=aa h
 have UO:=AY k k r3.1.1 ([]:(List Int)) r5 UL
 refine jb (bI (N:=[(.tmp 19,I r3.1.1),(.const (.slice none 0 0),.eq (.slice none 0 0))]) (av [.tmp 19,.const (.slice none 0 0)] rfl rfl QE rfl UO) λ_ _ _ hn=>⟨hn.1,(aC (t:=Tl) (x:=([]:(List Int))) .nil rfl rfl hn.2.1),trivial⟩) ?_
 refine aq ?_
 refine nt ?_
 refine dB (Z:=Value) (α:=(List (List Int))) (λz7 x6=>[(3,Pt b4),(4,.eq z7)]) (λz7 x6=>[.obj b4 25 (.rep au r3.1),.sl z7 28 Tl x6]) (λe=>e=r) h (λe h=>Option.some.inj h) (λK hR h=>?_) (λz7 x6 h=>?_)
 .
  refine sr (cq (nt (ak ?_)));refine jd (SE.nil 28 Tl) ?_;refine aI (λz9 y8=>[(3,Pt b4),(4,.eq z9),(5,.rep (.slice Tl) r5),(6,I y8.2)]) (λz9 y8=>[.obj b4 25 (.rep au r3.1),.sl z9 28 Tl y8.1]) (dP k r3 r5) k (.slice none 0 0) (([]:(List (List Int))),0) (λ_=>rfl) h (SE.fin [1,0] ⟨rfl,rfl,rfl,rfl,trivial⟩ rfl) (λn z9 y8 h=>?_);unfold dP at h;refine aj (sr ?_);iterate 2 refine mq ?_
  refine ol qp ?_;refine jb (bF rfl) ?_;refine nt (ci h (λh=>?_) (λh=>?_))
  .refine sk (dB (Z:=Value) (α:=(List (List Int))) (λu E=>[(3,Pt b4),(4,.eq u),(5,.rep (.slice Tl) r5),(6,I y8.2)]) (λu E=>[.obj b4 25 (.rep au r3.1),.sl u 28 Tl E]) (λe=>e=r) h (λe h=>hR e h) (λK hR h=>?_) (λu E h=>?_))
   .refine ak (aj (cL ?_));refine ea 0 (ax rfl g7 (tC) rfl) ?_;refine dm ?_;refine dm ?_;obtain⟨mc,Uu,h⟩:=aa h;refine db (aU (t:=Tl) rfl qp gi Uu) ?_;refine da (ap (t:=Tl) rfl gi rfl) ?_;obtain⟨UK,UD,h⟩:=aa h;refine dc (bI (N:=[(.tmp 28,.rep au r3.1),(.tmp 32,.rep Tl mc),(.const (.slice none 0 0),.eq (.slice none 0 0))]) (aR [.tmp 28,.tmp 32,.const (.slice none 0 0)] rfl rfl Td rfl (tj k r3.1 mc ([]:(List Int)) UK UD)) λ_ _ _ hn=>⟨hn.1,hn.2.1,(aC (t:=Tl) (x:=([]:(List Int))) .nil rfl rfl hn.2.2.1),trivial⟩) ?_;refine dm ?_;refine da (jh rfl rfl) ?_;refine da (jh rfl rfl) ?_;refine da (oa rfl) ?_;refine df d4 ?_;refine aq (nt (aj (sr ?_)));refine mq ?_;refine ja (iz rfl) ?_;refine nt (cw h (λh=>?_) (λh=>?_))
    .refine sr (cq (nt (rx (br (bJ (bC ?_))))));obtain rfl:=hR _ h;exact ra
    .refine sk (sr (mq (nt ?_)));refine cv h (λh=>?_) (λh=>?_)
     .refine ab ?_;iterate 3 refine mq ?_
      obtain⟨gw,Ut,h⟩:=aa h;refine jb (aU (t:=Tl) rfl qp gi Ut) ?_;refine ja (ap (t:=Tl) rfl gi rfl) ?_;refine ja (bg (t:=Tl) [(.tmp 43,_)] [gw] rfl rfl my (.cons rfl .rep .nil) rfl rfl) ?_;obtain⟨US,Uw,h⟩:=aa h;refine fr 1 ?_;refine dY rfl rfl rfl (cp rfl rfl my (am Uw)) ⟨rfl,rfl,trivial⟩ λUI=>?_;refine aq (aE (bn ?_));exact jz (UI,y8.1++[gw]) h [1,0]
     .refine be (bn ?_);exact jz (z9,y8.1) h [0,1]
   .refine ab (mq ?_);obtain⟨UH,Us,h⟩:=aa h;refine jb (bB rfl Us) ?_;refine aq (nl ?_);exact jz (u,(E,UH)) h [0,1]
  .refine xa ?_;exact jz (z9,y8.1) h [0,1]
 .
  refine sr (lo g7 ?_);obtain⟨Um,UC,h⟩:=aa h;refine ja (aR [.tmp 47] rfl rfl QF rfl (pA k r3.1 Um UC)) ?_;refine mq ?_;refine xr ?_;refine xr ?_;refine aq ?_;refine aq (nt (sr ?_));refine lo g7 ?_;obtain⟨c,UB,h⟩:=aa h;refine ja (aR [.tmp 52] rfl rfl Tj rfl (vH k r3.1 c UB)) ?_;refine mq ?_;refine xr ?_;refine xr ?_;refine aq ?_;refine aq (nt (aj ?_));refine aH (Z:=Unit) (α:=(List (List Int))×Bool) (λY l=>[(4,.rep (.slice Tl) l.1),(11,.rep Tl c.1),(12,I c.2),(63,.eq (.bool l.2))]) (λY l=>[]) h (λK h=>?_) (λY l h=>?_)
  .refine ab (mq ?_);refine jb (fh rfl) ?_;refine mq ?_;refine cK (s:=58) rfl (λhb=>?_) (λhb=>?_)
   .replace h:=fg (RQ hb) h;iterate 4 refine gn ?_
    refine pt (nl ?_);refine bo 1 rfl ?_;refine bQ (gY [4] ⟨rfl,trivial⟩) ?_;exact jz ((),(x6,true)) h []
   .replace h:=cY (Oc hb) h;refine gm ?_;refine gm ?_;refine fr 1 ?_;refine eG (gY [4,60] ⟨rfl,rfl,trivial⟩) ?_;obtain⟨zz,UA,h⟩:=aa h;refine gb (av [.tmp 59,.tmp 60] rfl rfl Oy rfl (jm k Um.1 x6 zz UA)) ?_;refine ga (iz rfl) ?_;refine pf (nl ?_);exact jz ((),(x6, !zz)) h []
  .refine cv h (λh=>?_) (λh=>?_)
   .refine sr (cq (nt (rx ?_)));cases h;exact ra
   .refine sk (aj (sr (mq ?_)));refine ol qp ?_;refine jb (hH rfl) ?_;refine nt (ci h (λh=>?_) (λh=>?_))
    .refine aH (Z:=Unit) (α:=Bool) (λX J=>[(2,.eq (.bool J))]) (λX J=>[]) h (λK h=>?_) (λX J h=>?_)
     .refine ab (mq ?_);refine jb (hH rfl) ?_;refine mq ?_;refine cK (s:=69) rfl (λhb=>?_) (λhb=>?_)
      .replace h:=fg (tJ hb) h;refine gm ?_;refine ga (sX rfl rfl iq) ?_;refine gb (hH rfl) ?_;refine pt ?_;refine mq ?_;refine cK (s:=74) rfl (λhb=>?_) (λhb=>?_)
       .replace h:=fg (tJ hb) h;obtain⟨qt,Uz,h⟩:=aa h;refine km rfl rfl rfl rfl rfl rfl (aR [] rfl rfl QP rfl (s6 k qt Uz)) trivial ?_;refine pt ?_;refine aq (nl ?_);exact jz ((),qt) h []
       .replace h:=cY (tK hb) h;refine gn ?_;refine pf ?_;refine aq (nl ?_);exact jz ((),false) h []
      .replace h:=cY (tK hb) h;iterate 3 refine gn ?_
       refine pf ?_;refine mq ?_;refine gn ?_;refine pf ?_;refine aq (nl ?_);exact jz ((),false) h []
     .refine rx ?_;cases h;exact ra
    .refine sk (sr (mq ?_));obtain⟨UG,Ur,h⟩:=aa h;refine jb (aU (t:=Tl) rfl qp gi Ur) ?_;refine ja (ap (t:=Tl) rfl gi rfl) ?_;refine aq (nt ?_);refine aH (Z:=Unit) (α:=(List Int)) (λU D=>[(11,.rep Tl c.1),(12,I c.2),(13,.rep Tl D)]) (λU D=>[]) h (λK h=>?_) (λU D h=>?_)
     .refine sr (cq (nt (ak ?_)));refine aI (λQ j=>[(4,.rep (.slice Tl) l.1),(11,.rep Tl c.1),(12,I c.2),(13,.rep Tl j.1),(14,I j.2)]) (λQ j=>[]) (dO k l) k () (UG,0) (λ_=>rfl) h (SE.fin [] ⟨rfl,rfl,rfl,rfl,rfl,trivial⟩ rfl) (λn Q j h=>?_);unfold dO at h;refine aj (sr ?_);iterate 2 refine mq ?_
      refine ol qp ?_;refine jb (bF rfl) ?_;refine nt (ci h (λh=>?_) (λh=>?_))
      .refine sk (aH (Z:=Unit) (α:=(List Int)) (λO y=>[(4,.rep (.slice Tl) l.1),(11,.rep Tl c.1),(12,I c.2),(13,.rep Tl y),(14,I j.2)]) (λO y=>[]) h (λK h=>?_) (λO y h=>?_))
       .refine ak (sr ?_);iterate 2 refine mq ?_
        obtain⟨UR,Up,h⟩:=aa h;refine jb (aU (t:=Tl) rfl qp gi Up) ?_;refine ja (ap (t:=Tl) rfl gi rfl) ?_;refine ol iq ?_;refine mq ?_;refine ol iq ?_;refine jb (bF rfl) ?_;refine nt (ci h (λh=>?_) (λh=>?_))
        .refine ab ?_;iterate 2 refine mq ?_
         obtain⟨UF,Uo,h⟩:=aa h;refine jb (aU (t:=Tl) rfl qp gi Uo) ?_;refine ja (ap (t:=Tl) rfl gi rfl) ?_;refine aq (aE (bn ?_));exact jz ((),UF) h []
        .refine be (bn ?_);exact jz ((),j.1) h []
       .refine ab (mq ?_);obtain⟨UE,Un,h⟩:=aa h;refine jb (bB rfl Un) ?_;refine aq (nl ?_);exact jz ((),(y,UE)) h []
      .refine xa ?_;exact jz ((),j.1) h []
     .refine aH (Z:=Unit) (α:=Bool) (λM F=>[(2,.eq (.bool F))]) (λM F=>[]) h (λK h=>?_) (λM F h=>?_)
      .refine ab (mq ?_);refine jb (hH rfl) ?_;refine mq ?_;refine cK (s:=100) rfl (λhb=>?_) (λhb=>?_)
       .replace h:=fg (tJ hb) h;refine gm ?_;refine gm ?_;obtain⟨UJ,Uy,h⟩:=aa h;refine gb (av [.tmp 101,.tmp 102] rfl rfl K2 rfl (ip k c.1 D UJ Uy)) ?_;refine pt ?_;refine mq ?_;refine cK (s:=105) rfl (λhb=>?_) (λhb=>?_)
        .replace h:=fg (Me hb) h;obtain⟨mw,Ux,h⟩:=aa h;refine km rfl rfl rfl rfl rfl rfl (aR [] rfl rfl QP rfl (s6 k mw Ux)) trivial ?_;refine pt ?_;refine aq (nl ?_);exact jz ((),mw) h []
        .replace h:=cY (MB hb) h;refine gn ?_;refine pf ?_;refine aq (nl ?_);exact jz ((),false) h []
       .replace h:=cY (tK hb) h;iterate 3 refine gn ?_
        refine pf ?_;refine mq ?_;refine gn ?_;refine pf ?_;refine aq (nl ?_);exact jz ((),false) h []
      .refine aA ?_;cases h;exact ra
