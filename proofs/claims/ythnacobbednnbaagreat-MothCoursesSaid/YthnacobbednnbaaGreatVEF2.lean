import Derived.Test.YthnacobbednnbaaGreatVEB10
open Nat
open List hiding mem_of_getElem?
open Array hiding mem_of_getElem? mk
set_option linter.unusedSimpArgs false
set_option linter.unusedVariables false
set_option maxRecDepth 4000
set_option maxHeartbeats 1000000
namespace Go.Proofs.YthnacobbednnbaaGreat
open K Go Go.Proofs
def fe(k:Nat)(a0:ae)(a1:(List Int)):Nat->(Int×Int)->Option (Except ((Option ae)×Int×Int) Int)
 |0,_=>none
 |n+1,y5=>
  if y5.2 < (a1.length:Int) then((aH a1 y5.2).bind λx7=>
  (ck (a0.1 - 1)).bind λx8=>
  (dO k x7 0 x8).bind λr9=>
  if¬(r9=true) then(some (.error (none,0,3))) else(((if 0 < y5.2 then((ck (y5.2 - 1)).bind λh=>
  (aH a1 h).bind λe=>
  some (decide (x7≤e))) else(some false)):Option (Bool)).bind λj=>
  if j=true then(some (.error (none,0,5))) else((f9 k y5.1 x7).bind λl=>
  (ck (y5.2+1)).bind λc=>
  fe k a0 a1 n (l,c)))) else(some (.ok y5.1))
def dJ(k:Nat)(a0:ae)(h:Int)(e:(List Int)):Nat->Int->Option (Except ((Option ae)×Int×Int) Unit)
 |0,_=>none
 |n+1,c=>
  if c < (e.length:Int) then((aH e c).bind λu=>
  (ck (a0.1 - 1)).bind λs=>
  (ck ((a0.2.2.2.2.1.length:Int) - 1)).bind λr=>
  (aH [s,r,(a0.2.2.2.2.1.length:Int)] h).bind λl=>
  (dO k u 0 l).bind λx=>
  if¬(x=true) then(some (.error (none,0,3))) else((ck (c+1)).bind λj=>
  dJ k a0 h e n j)) else(some (.ok ()))
def cY(k:Nat)(a0:ae)(a2:(List Int))(a3:(List Int))(a4:(List Int)):Nat->Int->Option (Except ((Option ae)×Int×Int) Unit)
 |0,_=>none
 |n+1,c=>
  if c < ([a2,a3,a4].length:Int) then(bE (α:=Unit) ((aH [a2,a3,a4] c).bind λj=>
  dJ k a0 c j k 0) (λe=>some (.error e)) λ_=>
  (ck (c+1)).bind λh=>
  cY k a0 a2 a3 a4 n h) else(some (.ok ()))
def kx(k:Nat)(a0:ae)(a1:(List Int))(a2:(List Int))(a3:(List Int))(a4:(List Int)):Option ((Option ae)×Int×Int):=
 (lD k a0).bind λr2=>
 if¬(r2=0) then(some (none,0,r2)) else(bE (α:=Int) (fe k a0 a1 k (0,0)) (some) λx3=>
 bE (α:=Unit) (cY k a0 a2 a3 a4 k 0) (some) λ_=>
 (jx k a0).bind λe=>
 gI e (none) (λc=>(eJ k c).bind λh=>
 some (some c,x3,0)))
theorem mK(k:Nat)(a0:ae)(a1:(List Int))(a2:(List Int))(a3:(List Int))(a4:(List Int))(r:(Option ae)×Int×Int)(h:kx k a0 a1 a2 a3 a4=some r):
 cC (ec Tryz.prog) 48 [.rep am a0,.rep Tl a1,.rep Tl a2,.rep Tl a3,.rep Tl a4] [] (λz:Nat×Nat=>(bF [Kq r.1 z.1,.eq (.int .u8 r.2.1),I r.2.2],Kp r.1 λq=>rp q z.1 z.2 k)):=by
 unfold kx at h
 replace h:=ba h
 refine cC.of 95 Tryz.func48 rfl Tryz.ntmps48 rfl λS w0=>?_
 refine sr ?_
 refine bx λb1=>?_
 refine cq ?_
 refine cq ?_
 refine cq ?_
 refine nt ?_
 refine aj ?_
 refine sr ?_
 refine lo dk ?_
 obtain⟨r2,Vw,h⟩:=aa h
 have Vx:=rY k a0 r2 Vw
 refine ja (av [.tmp 22] rfl rfl Q9 rfl Vx) ?_
 refine aq ?_
 refine nt ?_
 refine sr ?_
 refine mq ?_
 refine jb (d4 rfl) ?_
 refine nt ?_
 refine cn h (λh=>?_) (λh=>?_)
 .
  refine sr (mq ?_);refine cq ?_;refine cq ?_;refine aq (nt (rx ?_));cases h;exact aP (0,0) [.eq (.pointer none),_,_] 0 ⟨rfl,rfl,rfl,trivial⟩ rfl
 .
  refine sk (sr (cq (nt ?_)));refine cO (Z:=Unit) (α:=Int) (λz4 x3=>[(2,.rep Tl a2),(3,.rep Tl a3),(4,.rep Tl a4),(5,Pt b1),(14,.eq (.int .u8 x3))]) (λz4 x3=>[.obj b1 25 (.rep am a0)]) (λe=>e=r) h (λe h=>Option.some.inj h) (λK hR h=>?_) (λz4 x3 h=>?_)
  .refine sr (mq ?_);refine ol gG ?_;refine fB rfl ?_;refine nt (ai (aD (λz6 y5=>[(1,.rep Tl a1),(2,.rep Tl a2),(3,.rep Tl a3),(4,.rep Tl a4),(5,Pt b1),(14,.eq (.int .u8 y5.1)),(27,.rep Tl a1),(28,I (a1.length:Int)),(29,I y5.2)]) (λz6 y5=>[.obj b1 25 (.rep am a0)]) (fe k a0 a1) k () (0,0) (λ_=>rfl) h (SE.fin [0] ⟨rfl,rfl,rfl,rfl,rfl,rfl,rfl,rfl,rfl,trivial⟩ rfl) (λn z6 y5 h=>?_)));unfold fe at h;refine sr (jb (bq rfl) ?_);refine nt (aj (ci h (λh=>?_) (λh=>?_)))
   .refine sk (aj (ai (sr (mq ?_))));obtain⟨x7,Vu,h⟩:=aa h;refine jb (aE (t:=Ti) rfl gG bW Vu) ?_;refine ja (an (t:=Ti) rfl bW rfl) ?_;refine aq ?_;refine aq (nt (aj (sr ?_)));refine mq ?_;refine fl fy ?_;refine lo bW ?_;obtain⟨x8,Vt,h⟩:=aa h;refine jb (ek rfl Vt) ?_;obtain⟨r9,Vv,h⟩:=aa h;refine jc (av [.tmp 34,.const (.int .i64 (0)),.tmp 37] rfl rfl yH rfl (dS k x7 0 x8 r9 Vv)) ?_;refine ja (eI rfl) ?_;refine nt (cw h (λh=>?_) (λh=>?_))
    .refine sr (cq ?_);refine cq ?_;refine cq (nt (rx (br (aX (aY ?_)))));obtain rfl:=hR _ h;exact aP (0,0) [.eq (.pointer none),_,_] 0 ⟨rfl,rfl,rfl,trivial⟩ rfl
    .refine sk (aj (aF (Z:=Unit) (α:=Bool) (λO y=>[(1,.rep Tl a1),(2,.rep Tl a2),(3,.rep Tl a3),(4,.rep Tl a4),(5,Pt b1),(14,.eq (.int .u8 y5.1)),(16,I x7),(27,.rep Tl a1),(28,I (a1.length:Int)),(29,I y5.2),(50,.eq (.bool y))]) (λO y=>[.obj b1 25 (.rep am a0)]) h (λK h=>?_) (λO y h=>?_)))
     .refine ab (mq ?_);refine jb (iD rfl) ?_;refine mq ?_;refine bX (s:=42) rfl (λhb=>?_) (λhb=>?_)
      .replace h:=dU (uA hb) h;refine gm ?_;refine gm ?_;refine gm ?_;obtain⟨VA,Vf,h⟩:=aa h;refine gb (ek rfl Vf) ?_;obtain⟨Vp,Ve,h⟩:=aa h;refine gb (aE (t:=Ti) rfl gG bW Ve) ?_;refine ga (an (t:=Ti) rfl bW rfl) ?_;refine gb (xg rfl) ?_;refine pt (nl ?_);exact jz ((),decide (x7≤Vp)) h [0]
      .replace h:=cG (uB hb) h;iterate 7 refine gn ?_
       refine pf (nl ?_);exact jz ((),false) h [0]
     .refine cv h (λh=>?_) (λh=>?_)
      .refine sr (cq ?_);refine cq ?_;refine cq (nt (rx (br (aX (aY ?_)))));obtain rfl:=hR _ h;exact aP (0,0) [.eq (.pointer none),_,_] 0 ⟨rfl,rfl,rfl,trivial⟩ rfl
      .refine sk (ab ?_);iterate 2 refine mq ?_
       obtain⟨Y,Vj,h⟩:=aa h;refine jb (av [.tmp 51,.tmp 52] rfl rfl OX rfl (kT k y5.1 x7 Y Vj)) ?_;refine aq (aG (aI (tn (ab ?_))));obtain⟨Vo,Vb,h⟩:=aa h;refine jb (bj rfl Vb) ?_;refine mq (nl ?_);exact jz ((),(Y,Vo)) h [0]
   .refine xa ?_;exact jz ((),y5.1) h [0]
  .refine cO (Z:=Unit) (α:=Unit) (λM U=>[(5,Pt b1),(14,.eq (.int .u8 x3))]) (λM U=>[.obj b1 25 (.rep am a0)]) (λe=>e=r) h (λe h=>Option.some.inj h) (λK hR h=>?_) (λM U h=>?_)
   .refine sr ?_;iterate 3 refine mq ?_
    refine jc (aW (t:=Tl) [(.tmp 55,_),(.tmp 56,_),(.tmp 57,_)] [a2,a3,a4] rfl rfl nm (.cons rfl .rep (.cons rfl .rep (.cons rfl .rep .nil))) rfl rfl) ?_;refine ol pY ?_;refine fB rfl ?_;refine nt (ai (aD (λJ c=>[(5,Pt b1),(14,.eq (.int .u8 x3)),(58,.rep (.slice Tl) [a2,a3,a4]),(59,I ([a2,a3,a4].length:Int)),(60,I c)]) (λJ c=>[.obj b1 25 (.rep am a0)]) (cY k a0 a2 a3 a4) k () 0 (λ_=>rfl) h (SE.fin [0] ⟨rfl,rfl,rfl,rfl,rfl,trivial⟩ rfl) (λn J c h=>?_)));unfold cY at h;refine sr (jb (bq rfl) ?_);refine nt (aj (ci h (λh=>?_) (λh=>?_)))
    .refine sk (cO (Z:=Unit) (α:=Unit) (λE Q=>[(5,Pt b1),(14,.eq (.int .u8 x3)),(58,.rep (.slice Tl) [a2,a3,a4]),(59,I ([a2,a3,a4].length:Int)),(60,I c)]) (λE Q=>[.obj b1 25 (.rep am a0)]) (λe=>e=r) h (λe h=>hR e h) (λK hR h=>?_) (λE Q h=>?_))
     .refine ai (sr (mq ?_));obtain⟨x,Va,h⟩:=aa h;refine jb (aE (t:=Tl) rfl pY fC Va) ?_;refine ja (an (t:=Tl) rfl fC rfl) ?_;refine aq ?_;refine aq (nt (sr ?_));refine mq ?_;refine ol gG ?_;refine fB rfl ?_;refine nt (ai (aD (λD u=>[(5,Pt b1),(14,.eq (.int .u8 x3)),(17,I c),(58,.rep (.slice Tl) [a2,a3,a4]),(59,I ([a2,a3,a4].length:Int)),(60,I c),(65,.rep Tl x),(66,I (x.length:Int)),(67,I u)]) (λD u=>[.obj b1 25 (.rep am a0)]) (dJ k a0 c x) k () 0 (λ_=>rfl) h (SE.fin [0] ⟨rfl,rfl,rfl,rfl,rfl,rfl,rfl,rfl,rfl,trivial⟩ rfl) (λn D u h=>?_)));unfold dJ at h;refine sr (jb (bq rfl) ?_);refine nt (aj (ci h (λh=>?_) (λh=>?_)))
      .refine sk (aj (ai (sr ?_)));obtain⟨Vn,U8,h⟩:=aa h;refine jb (aE (t:=Ti) rfl gG bW U8) ?_;refine ja (an (t:=Ti) rfl bW rfl) ?_;refine aq (nt (sr ?_));refine mq ?_;refine fl fy ?_;refine lo bW ?_;obtain⟨Vz,zz,h⟩:=aa h;refine jb (ek rfl zz) ?_;refine fl bS ?_;refine lo eH ?_;refine ol oy ?_;obtain⟨Vy,qt,h⟩:=aa h;refine jb (ek rfl qt) ?_;refine fl bS ?_;refine lo eH ?_;refine ol oy ?_;refine jc (EX rfl RN bW P3) ?_;refine mq ?_;obtain⟨Vm,mw,h⟩:=aa h;refine jb (oV (t:=Ti) rfl RN bW rfl rfl (λ_=>rfl) mw) ?_;obtain⟨Vr,Vi,h⟩:=aa h;refine jc (av [.tmp 71,.const (.int .i64 (0)),.tmp 84] rfl rfl yH rfl (dS k Vn 0 Vm Vr Vi)) ?_;refine ja (eI rfl) ?_;refine nt (cw h (λh=>?_) (λh=>?_))
       .refine sr (cq ?_);refine cq ?_;refine cq (nt (aC (br (aX (br (aX (aY ?_)))))));obtain rfl:=hR _ h;exact aP (0,0) [.eq (.pointer none),_,_] 0 ⟨rfl,rfl,rfl,trivial⟩ rfl
       .refine bi (aI (tn (ab ?_)));obtain⟨Vl,mc,h⟩:=aa h;refine jb (bj rfl mc) ?_;refine mq (nl ?_);exact jz ((),Vl) h [0]
      .refine fq (bL (bL (c6 (bn ?_))));exact jz ((),()) h [0]
     .refine ab ?_;obtain⟨Vk,gw,h⟩:=aa h;refine jb (bj rfl gw) ?_;refine mq (nl ?_);exact jz ((),Vk) h [0]
    .refine xa ?_;exact jz ((),()) h [0]
   .refine sr (lo dk ?_);obtain⟨X,Vh,h⟩:=aa h;have j:=og k a0 X Vh;rcases hr:X with _ |Vs
    .rw [hr] at h j;replace h:=wG h;refine aS (Δ:=[]) (F:=_) (λ_ _ _=>ah rfl _) rfl rfl (av [.tmp 89] rfl rfl Lq rfl j) ⟨rfl,trivial⟩ λ_=>?_;cases h
    .rw [hr] at h j;replace h:=wF h;refine aS (Δ:=[]) (F:=_) (λ_ _ _=>ah rfl _) rfl rfl (av [.tmp 89] rfl rfl Lq rfl j) ⟨rfl,trivial⟩ λl=>?_;refine aq (nt (sr ?_));refine mq ?_;obtain⟨Vq,Vg,h⟩:=aa h;refine fr 1 ?_;refine fr 1 ?_;refine aS (Δ:=[_,_]) (F:=_) (λ_ _ _=>ah rfl _) rfl rfl (bo [.tmp 91] rfl rfl TN rfl (qI k Vs l.1 l.2 Vq Vg)) ⟨rfl,trivial⟩ λ_=>?_;refine nt (sr ?_);iterate 2 refine mq ?_
     refine aq ?_;refine aq ?_;refine cq (nt (aC ?_));cases h;exact aP (l.1,l.2) [.eq (.pointer (some ⟨l.1,0,none⟩)),_,_] 2 ⟨rfl,rfl,rfl,trivial⟩ rfl
def eB(k:Nat)(a0:ae)(r5:(List (List Int)))(x9:Int):Nat->((List (List Int))×Int)->Option (List (List Int))
 |0,_=>none
 |n+1,c=>
  if c.2 < x9 then((aH r5 c.2).bind λj=>
  (cf (0≤a0.1/\a0.1≤5)).bind λ_=>
  (iz k (List.take (Int.toNat a0.1) j)).bind λe=>
  (cf (bA (length c.1+length [e]))).bind λ_=>
  (ck (c.2+1)).bind λh=>
  eB k a0 r5 x9 n (c.1++[e],h)) else(some c.1)
def jU(k:Nat)(a0:ae)(a1:(List Int)):Option ((List (List Int))×Int):=
 (kx k a0 a1 ([]:(List Int)) ([]:(List Int)) ([]:(List Int))).bind λr2=>
 gI r2.1 (if¬(r2.2.2=0) then(some (([]:(List (List Int))),r2.2.2)) else(none)) (λq3=>if¬(r2.2.2=0) then(some (([]:(List (List Int))),r2.2.2)) else((mt k q3 r2.2.1).bind λr5=>
 (((ck ((a0.2.2.2.2.1.length:Int)+1)).bind λx9=>
 eB k a0 r5 x9 k (([]:(List (List Int))),0)):Option ((List (List Int)))).bind λx7=>
 some (x7,0)))
theorem ql(k:Nat)(a0:ae)(a1:(List Int))(r:(List (List Int))×Int)(h:jU k a0 a1=some r):
 cC (ec Tryz.prog) 17 [.rep am a0,.rep Tl a1] [] (λ_:Unit=>(bF [.rep (.slice Tl) r.1,I r.2],[])):=by
 unfold jU at h
 replace h:=ba h
 refine cC.of 43 Tryz.func17 rfl Tryz.ntmps17 rfl λS w0=>?_
 refine sr ?_
 refine bx λb1=>?_
 refine cq ?_
 refine cq ?_
 refine nt ?_
 refine sr ?_
 refine lo dk ?_
 refine mq ?_
 obtain⟨r2,X,h⟩:=aa h
 have j:=mK k a0 a1 ([]:(List Int)) ([]:(List Int)) ([]:(List Int)) r2 X
 rcases hr:r2.1 with _ |q3
 .
  rw [hr] at h j;replace h:=wG h;refine aS (Δ:=[]) (F:=_) (λ_ _ _=>ah rfl _) rfl rfl (cz (N:=[(.tmp 13,.rep am a0),(.tmp 14,.rep Tl a1),(.const (.slice none 0 0),.eq (.slice none 0 0)),(.const (.slice none 0 0),.eq (.slice none 0 0)),(.const (.slice none 0 0),.eq (.slice none 0 0))]) (bo [.tmp 13,.tmp 14,.const (.slice none 0 0),.const (.slice none 0 0),.const (.slice none 0 0)] rfl rfl As rfl j) λ_ _ _ hn=>⟨hn.1,hn.2.1,(aN (t:=Tl) (x:=([]:(List Int))) .nil rfl rfl hn.2.2.1),(aN (t:=Tl) (x:=([]:(List Int))) .nil rfl rfl hn.2.2.2.1),(aN (t:=Tl) (x:=([]:(List Int))) .nil rfl rfl hn.2.2.2.2.1),trivial⟩) ⟨rfl,rfl,rfl,rfl,rfl,trivial⟩ λ_=>?_;refine mq ?_;refine xr ?_;refine xr ?_;refine xr ?_;refine aq ?_;refine aq ?_;refine aq (nt (aj (sr ?_)));refine mq ?_;refine jb (d4 rfl) ?_;refine nt (cn h (λh=>?_) (λh=>?_))
  .refine sr (mq ?_);refine cq ?_;refine aq (nt (rx ?_));refine bM (ew (t:=(.slice Tl)) (x:=([]:(List (List Int)))) 4 rfl .nil rfl rfl) ?_;cases h;exact rb
  .cases h
 .
  rw [hr] at h j;replace h:=wF h;refine aS (Δ:=[]) (F:=_) (λ_ _ _=>ah rfl _) rfl rfl (cz (N:=[(.tmp 13,.rep am a0),(.tmp 14,.rep Tl a1),(.const (.slice none 0 0),.eq (.slice none 0 0)),(.const (.slice none 0 0),.eq (.slice none 0 0)),(.const (.slice none 0 0),.eq (.slice none 0 0))]) (bo [.tmp 13,.tmp 14,.const (.slice none 0 0),.const (.slice none 0 0),.const (.slice none 0 0)] rfl rfl As rfl j) λ_ _ _ hn=>⟨hn.1,hn.2.1,(aN (t:=Tl) (x:=([]:(List Int))) .nil rfl rfl hn.2.2.1),(aN (t:=Tl) (x:=([]:(List Int))) .nil rfl rfl hn.2.2.2.1),(aN (t:=Tl) (x:=([]:(List Int))) .nil rfl rfl hn.2.2.2.2.1),trivial⟩) ⟨rfl,rfl,rfl,rfl,rfl,trivial⟩ λz4=>?_;refine mq ?_;refine xr ?_;refine xr ?_;refine xr ?_;refine aq ?_;refine aq ?_;refine aq (nt (aj (sr ?_)));refine mq ?_;refine jb (d4 rfl) ?_;refine nt (cn h (λh=>?_) (λh=>?_))
  .refine sr (mq ?_);refine cq ?_;refine aq (nt (rx ?_));refine bM (ew (t:=(.slice Tl)) (x:=([]:(List (List Int)))) 4 rfl .nil rfl rfl) ?_;cases h;exact rb
  .refine sk (sr (cq (nt (sr ?_))));iterate 2 refine mq ?_
   obtain⟨r5,U,h⟩:=aa h;refine fr 1 ?_;refine fr 1 ?_;refine aS (Δ:=[_,_]) (F:=_) (λ_ _ _=>ah rfl _) rfl rfl (bo [.tmp 22,.tmp 23] rfl rfl E8 rfl (pR k q3 z4.1 z4.2 r2.2.1 r5 U)) ⟨rfl,rfl,trivial⟩ λ_=>?_;refine aZ rfl rfl rfl (bp rfl F3 IM) trivial λb6=>?_;refine aM rfl rfl (aK rfl GM rfl rfl rfl) ⟨rfl,rfl,trivial⟩ ?_;refine ee (jZ (t:=(.arr 7 Tr)) (x:=r5) [10] .rep ⟨rfl,trivial⟩) ?_;refine nt (aF (Z:=Value) (α:=(List (List Int))) (λz8 x7=>[(9,.eq z8)]) (λz8 x7=>[.sl z8 28 Tl x7,.inv z4.2 (cj k q3)]) h (λK h=>?_) (λz8 x7 h=>?_))
   .refine sr (fl bS ?_);refine fr 2 ?_;refine lo eH ?_;refine ol oy ?_;obtain⟨x9,Q,h⟩:=aa h;refine jb (bj rfl Q) ?_;refine fB rfl ?_;refine nt (ai (gu (SE.nil 28 Tl) ?_));refine aD (λe c=>[(2,Pt b1),(9,.eq e),(10,.at (.arr 7 Tr) r5),(28,I x9),(29,I c.2)]) (λe c=>[.obj b1 25 (.rep am a0),.sl e 28 Tl c.1,.inv z4.2 (cj k q3)]) (eB k a0 r5 x9) k (.slice none 0 0) (([]:(List (List Int))),0) (λ_=>rfl) h (SE.fin [1,0,3] ⟨rfl,rfl,rfl,rfl,rfl,trivial⟩ rfl) (λn e c h=>?_);unfold eB at h;refine sr (jb (bq rfl) ?_);refine nt (aj (ci h (λh=>?_) (λh=>?_)))
    .refine sk (aj (ai (sr (mq ?_))));refine aq (nt ?_);refine bN ?_;refine dm ?_;refine dm ?_;obtain⟨M,y,h⟩:=aa h;refine db (cD (t:=Tr) rfl Jp jI y) ?_;refine da (au rfl fy) ?_;refine ea 0 (ap rfl bW jN rfl) ?_;obtain⟨gw,l,h⟩:=aa h;refine db (wn (t:=Ti) rfl CV bW (ao l).1 (ao l).2) ?_;obtain⟨s,E,h⟩:=aa h;refine da (sC (av [.tmp 37] rfl rfl Uf rfl (sM k (List.take (Int.toNat a0.1) M) s E))) ?_;refine da (aW (t:=Tl) [(.tmp 38,_)] [s] rfl rfl nm (.cons rfl .rep .nil) rfl rfl) ?_;refine df cS ?_;obtain⟨Y,D,h⟩:=aa h;refine fr 1 ?_;refine cR rfl rfl rfl (bu rfl rfl nm (ao D)) ⟨rfl,rfl,trivial⟩ λO=>?_;refine aq (aG (aI (tn (ab ?_))));obtain⟨J,u,h⟩:=aa h;refine jb (bj rfl u) ?_;refine mq (nl ?_);exact jz (O,(c.1++[s],J)) h [1,0,2]
    .refine xa ?_;exact jz (e,c.1) h [1,2]
   .refine sr (mq ?_);refine aq ?_;refine cq (nt (aC ?_));refine bM (ie [4,9,42] ⟨rfl,rfl,rfl,trivial⟩) ?_;cases h;exact rb
def fh(k:Nat)(a0:ae)(a2:Int)(r1:(List (List Int))):Nat->Int->Option Bool
 |0,_=>none
 |n+1,y3=>
  if y3 < (a0.2.2.2.2.2.length:Int) then((aH a0.2.2.2.2.2 y3).bind λx5=>
  (((fa k a2 y3).bind λr9=>
  if¬(r9=true) then((aH r1 x5.2.1).bind λh=>
  (aH h x5.1).bind λe=>
  some (!decide ((decide (a0.2.2.1≤e))=x5.2.2))) else(some false)):Option (Bool)).bind λx7=>
  if x7=true then(some false) else((ck (y3+1)).bind λc=>
  fh k a0 a2 r1 n c)) else(some true)
def jA(k:Nat)(a0:ae)(a1:Int)(a2:Int):Option Bool:=
 (mt k a0 a1).bind λr1=>
 fh k a0 a2 r1 k 0
theorem o5(k:Nat)(a0:ae)(c z_a0:Nat)(a1:Int)(a2:Int)(r:Bool)(h:jA k a0 a1 a2=some r):
 C4 (ec Tryz.prog) 119 [Pt c,.eq (.int .u8 a1),.eq (.int .u8 a2)] [.obj c 135 (bf a0 z_a0),.inv z_a0 (cj k a0)] (.iface 168 (.agg #[])) r:=by
 unfold jA at h
 replace h:=ba h
 refine C4.of 48 Tryz.func119 rfl Tryz.ntmps119 rfl λS w0=>?_
 refine sr ?_
 iterate 2 refine mq ?_
 obtain⟨r1,E,h⟩:=aa h
 have J:=pR k a0 c z_a0 a1 r1 E
 refine fr 1 ?_
 refine fr 1 ?_
 refine aS (Δ:=[_,_]) (F:=_) (λ_ _ _=>ah rfl _) rfl rfl (bo [.tmp 9,.tmp 10] rfl rfl E8 rfl J) ⟨rfl,rfl,trivial⟩ λ_=>?_
 refine aZ rfl rfl rfl (bp rfl F3 IM) trivial λb2=>?_
 refine aM rfl rfl (aK rfl GM rfl rfl rfl) ⟨rfl,rfl,trivial⟩ ?_
 refine ee (jZ (t:=(.arr 7 Tr)) (x:=r1) [6] .rep ⟨rfl,trivial⟩) ?_
 refine nt ?_
 refine sr ?_
 refine mq ?_
 refine ja (cT rfl) ?_
 refine fl iq ?_
 refine fl fK ?_
 refine lo nh ?_
 refine ol Ei ?_
 refine fB rfl ?_
 refine nt ?_
 refine ai ?_
 refine aD (λz4 y3=>[(0,Pt c),(2,.eq (.int .u8 a2)),(6,.at (.arr 7 Tr) r1),(16,Rs aJ a0.2.2.2.2.2),(17,I (a0.2.2.2.2.2.length:Int)),(18,I y3)]) (λz4 y3=>[.obj c 135 (bf a0 z_a0),.inv z_a0 (cj k a0)]) (fh k a0 a2 r1) k () 0 (λ_=>rfl) h (SE.fin [0,1] ⟨rfl,rfl,rfl,rfl,rfl,rfl,trivial⟩ rfl) (λn z4 y3 h=>?_)
 unfold fh at h
 refine sr ?_
 refine jb (bq rfl) ?_
 refine nt ?_
 refine aj ?_
 refine ci h (λh=>?_) (λh=>?_)
 .
  refine sk (aj (ai (sr (mq ?_))));obtain⟨x5,y,h⟩:=aa h;refine jb (aE (t:=aJ) rfl Ei nI y) ?_;refine ja (an (t:=aJ) rfl nI rfl) ?_;refine aZ rfl rfl rfl (bp rfl EF LZ) trivial λb6=>?_;refine aq ?_;refine aM rfl rfl (aK rfl nI rfl rfl rfl) ⟨rfl,rfl,trivial⟩ ?_;refine nt (aF (Z:=Unit) (α:=Bool) (λz8 x7=>[(0,Pt c),(2,.eq (.int .u8 a2)),(6,.at (.arr 7 Tr) r1),(16,Rs aJ a0.2.2.2.2.2),(17,I (a0.2.2.2.2.2.length:Int)),(18,I y3),(44,.eq (.bool x7))]) (λz8 x7=>[.obj c 135 (bf a0 z_a0),.inv z_a0 (cj k a0)]) h (λK h=>?_) (λz8 x7 h=>?_))
  .refine bN ?_;refine dm ?_;refine dm ?_;obtain⟨r9,D,h⟩:=aa h;refine db (av [.tmp 23,.tmp 24] rfl rfl Iw rfl (g9 k a2 y3 r9 D)) ?_;refine da (eI rfl) ?_;refine lx rfl rfl rfl (aO rfl) ⟨rfl,trivial⟩ (λhb=>?_) (λhb=>?_)
   .replace h:=dU (rQ hb) h;refine bg rfl rfl rfl rfl rfl (au rfl Cj) ⟨rfl,rfl,trivial⟩ ?_;refine iZ 0 rfl rfl rfl rfl rfl rfl (ap rfl bW jN rfl) ⟨rfl,rfl,trivial⟩ ?_;refine bg rfl rfl rfl rfl rfl (au rfl Cm) ⟨rfl,rfl,trivial⟩ ?_;refine iZ 0 rfl rfl rfl rfl rfl rfl (ap rfl bW jN rfl) ⟨rfl,rfl,trivial⟩ ?_;obtain⟨M,l,h⟩:=aa h;refine bg rfl rfl rfl rfl rfl (cD (t:=Tr) rfl Jp jI l) ⟨rfl,rfl,rfl,trivial⟩ ?_;obtain⟨u,j,h⟩:=aa h;refine bg rfl rfl rfl rfl rfl (cD (t:=Ti) rfl CV bW j) ⟨rfl,rfl,rfl,trivial⟩ ?_;refine bg rfl rfl rfl rfl rfl (an (t:=Ti) rfl bW rfl) ⟨rfl,rfl,trivial⟩ ?_;refine bg rfl rfl rfl rfl rfl (aO rfl) ⟨rfl,rfl,trivial⟩ ?_;refine bg rfl rfl rfl rfl rfl (cT rfl) ⟨rfl,rfl,trivial⟩ ?_;refine bg rfl rfl rfl rfl rfl (au rfl iq) ⟨rfl,rfl,trivial⟩ ?_;refine bg rfl rfl rfl rfl rfl (au rfl tA) ⟨rfl,rfl,trivial⟩ ?_;refine iZ 1 rfl rfl rfl rfl rfl rfl (ap rfl bW jN rfl) ⟨rfl,rfl,trivial⟩ ?_;refine bg rfl rfl rfl rfl rfl (jg rfl) ⟨rfl,rfl,rfl,trivial⟩ ?_;refine bg rfl rfl rfl rfl rfl (au rfl OS) ⟨rfl,rfl,trivial⟩ ?_;refine iZ 0 rfl rfl rfl rfl rfl rfl (ap rfl US jN rfl) ⟨rfl,rfl,trivial⟩ ?_;refine df cS ?_;refine gb (Ov rfl U4) ?_;refine pt (nl ?_);exact jz ((), !decide ((decide (a0.2.2.1≤u))=x5.2.2)) h [1,2]
   .replace h:=cG (mF hb) h;iterate 15 refine dg ?_
    refine df cS ?_;refine gn ?_;refine pf (nl ?_);exact jz ((),false) h [1,2]
  .refine cv h (λh=>?_) (λh=>?_)
   .refine ab (co rfl (Hy rfl Py P2) trivial ?_);refine ja (Hu rfl Py) ?_;refine FQ rfl rfl rfl rfl ?_;refine AY ?_;refine tL ?_;refine tL ?_;refine AY ?_;refine bM (SE.fin (Γ':=[]) [0,1] trivial rfl) ?_;cases h;exact MI
   .refine bi (aI (tn (ab ?_)));obtain⟨s,e,h⟩:=aa h;refine jb (bj rfl e) ?_;refine mq (nl ?_);exact jz ((),s) h [0,1]
 .
  refine fq (bL (bL (c6 (kM ?_))));refine bM (SE.fin (Γ':=[]) [0,1] trivial rfl) ?_;cases h;exact aP () [] 2 trivial rfl
def i9(k:Nat)(a0:ae)(a1:Int)(a2:Int):Option Bool:=jA k a0 a1 a2
theorem M7:Pz Tryz.prog 168 (.agg #[]):=⟨⟨_,Py⟩,λw=>by kernel_rfl⟩
theorem Iy:∀(S:FS) (w:World),(A.rep (.arr 0 Ti) []).holds S w (.agg #[]):=λ_ _=>⟨[],⟨rfl,rfl⟩,rfl⟩
theorem MR:∀w,(zeroValue 168).run Tryz.prog w= .ok (.agg #[]) w:=λw=>by kernel_rfl
theorem NC:∀S w,(A.cells S w (.rep (.arr 0 Ti) []) (Value.cells (.agg #[])).toList):=λ_ _=>⟨rfl,rfl⟩
theorem M8:er Tryz.prog 168 0 true:=⟨λw=>by kernel_rfl,λw=>by kernel_rfl⟩
theorem Rq:ag Tryz.prog 118:=ag.of Tryz.func118 (by kernel_rfl) (by kernel_rfl)
theorem Np:ag Tryz.prog 119:=ag.of Tryz.func119 (by kernel_rfl) (by kernel_rfl)
theorem JP:er Tryz.prog 4 1 false:=⟨λw=>by kernel_rfl,λw=>by kernel_rfl⟩
theorem SO:∀w,(zeroValue 4).run Tryz.prog w= .ok (.bool false) w:=λw=>by kernel_rfl
theorem Uw:∀S w,(A.cells S w (.eq (.bool false)) (Value.cells (.bool false)).toList):=λ_ _=>⟨rfl,rfl⟩
theorem AG:yX Tryz.prog 118 (.iface 168 (.agg #[])) 4 (.bool false):=by
 refine⟨Rq,λM e0=>?_,λM e0=>?_⟩
 .refine mj.of (M:=M) (m:=.returning) (m1:=.returning) (val:=.nilIface) Tryz.func118 rfl rfl (by decide) rfl rfl (by decide) (λρ=>rfl) (λfr b cs hb hm=>G6 hb hm rfl) (.inl rfl) λb S w0=>?_;refine ja (Kt Iy rfl M7) ?_;refine mq ?_;refine xr ?_;refine xr ?_;refine aZ rfl rfl rfl (bp rfl MR NC) trivial λb1=>?_;refine aM rfl rfl (aK rfl M8 rfl rfl rfl) ⟨rfl,rfl,trivial⟩ ?_;refine aq (nt (sr ?_));refine mq (nt ?_);refine jG rfl (λhb=>by cases hb) (λhb=>?_);refine bi (kM ?_);refine bM (SE.fin (Γ':=[]) [1] trivial rfl) ?_;exact aP () [] 1 trivial rfl
 .refine mj.of (M:=M) (m:=.panicking (ix (.iface 168 (.agg #[])) false)) (m1:=.panicking (ix (.iface 168 (.agg #[])) true)) (val:=.iface 168 (.agg #[])) Tryz.func118 rfl rfl (by decide) rfl rfl (by decide) (λρ=>rfl) (λfr b cs hb hm=>G5 hb hm) (.inr ⟨_,rfl⟩) λb S w0=>?_;refine ja (Ks Iy rfl M7) ?_;refine mq ?_;refine xr ?_;refine xr ?_;refine aZ rfl rfl rfl (bp rfl MR NC) trivial λb1=>?_;refine aM rfl rfl (aK rfl M8 rfl rfl rfl) ⟨rfl,rfl,trivial⟩ ?_;refine aq (nt (sr ?_));refine mq (nt ?_);refine jG rfl (λhb=>?_) (λhb=>by cases hb);refine ab (fr 1 ?_);refine aM rfl rfl (aK rfl JP rfl rfl rfl) ⟨rfl,rfl,trivial⟩ ?_;refine aG (kM ?_);refine bM (SE.fin (Γ':=[]) [0] trivial rfl) ?_;exact aP () [] 1 trivial rfl
theorem ov(k:Nat)(a0:ae)(c z_a0:Nat)(a1:Int)(a2:Int)(r:Bool)(h:i9 k a0 a1 a2=some r):
 cC (ec Tryz.prog) 101 [Pt c,.eq (.int .u8 a1),.eq (.int .u8 a2)] (rp a0 c z_a0 k) (λ_:Unit=>(bF [.eq (.bool r)],rp a0 c z_a0 k)):=by
 have cr:=o5 k a0 c z_a0 a1 a2 r h
 refine A2 12 Tryz.func101 rfl Tryz.ntmps101 rfl λS w0=>?_
 refine sr ?_
 refine aZ rfl rfl rfl (bp rfl SO Uw) trivial λb6=>?_
 refine nt ?_
 refine sr ?_
 refine ja (sV [] [.tmp 6] [] [(Pv b6)] rfl rfl rfl) ?_
 refine I6 rfl rfl rfl rfl rfl ?_
 refine nt ?_
 refine sr ?_
 iterate 3 refine mq ?_
 refine fr 2 ?_
 refine fr 2 ?_
 cases r with
 |false=>
  refine I7 (Ss:=[Pt c,.eq (.int .u8 a1),.eq (.int .u8 a2)]) (Δ:=rp a0 c z_a0 k) (F:=[.obj b6 4 (.eq (.bool false))]) [.tmp 8,.tmp 9,.tmp 10] rfl rfl rfl rfl Np ⟨rfl,rfl,rfl,trivial⟩ cr ?_;refine tL ?_;refine bM (SE.fin (Γ':=[(6,_)]) [2,0,1] ⟨rfl,trivial⟩ rfl) ?_;refine FR AG ?_;refine bM (SE.fin (Γ':=[(6,_)]) [1,2,0] ⟨rfl,trivial⟩ rfl) ?_;exact aP () [.eq (.bool false)] 2 ⟨⟨_,_,_,_,_,rfl,(.tail _ (.tail _ (.head _))),JP,(λ_=>rfl),rfl⟩,trivial⟩ rfl
 |true=>
  refine aS (Δ:=rp a0 c z_a0 k) (F:=[.obj b6 4 (.eq (.bool false))]) (λ_ _ _=>ah rfl _) rfl rfl (bo [.tmp 8,.tmp 9,.tmp 10] rfl rfl Np rfl cr.ok) ⟨rfl,rfl,rfl,trivial⟩ λ_=>?_;refine nt (sr (fr 2 ?_));refine aM rfl rfl (aK rfl JP rfl rfl rfl) ⟨rfl,rfl,trivial⟩ ?_;refine nt (aC (MH AG ?_));refine bM (SE.fin (Γ':=[(6,_)]) [1,2,0] ⟨rfl,trivial⟩ rfl) ?_;exact aP () [.eq (.bool true)] 2 ⟨⟨_,_,_,_,_,rfl,(.tail _ (.tail _ (.head _))),JP,(λ_=>rfl),rfl⟩,trivial⟩ rfl
def ij(k:Nat)(a0:ae)(a1:Int):Option (List Int):=
 (mL k (wT (λ(y5:(List Int)) (p7:Int)=>
  (i9 k a0 p7 a1).bind λr9=>
  if r9=true then((cf (bA (length y5+length [p7]))).bind λ_=>
  some (y5++[p7],true)) else(some (y5,true)))) a0.1 (([]:(List Int)),false)).bind λr8=>
 if r8.2=true then(none) else(some r8.1)
theorem kZ(k:Nat)(a0:ae)(c z_a0:Nat)(a1:Int)(r:(List Int))(h:ij k a0 a1=some r):
 cC (ec Tryz.prog) 68 [Pt c,.eq (.int .u8 a1)] [.obj c 135 (bf a0 z_a0),.inv z_a0 (cj k a0)] (λ_:Unit=>(bF [.rep (.slice (.int .u8)) r],[.obj c 135 (bf a0 z_a0),.inv z_a0 (cj k a0)])):=by
 unfold ij at h
 replace h:=ba h
 refine vU 23 Tryz.func68 rfl Tryz.ntmps68 rfl λS w0=>?_
 refine sr ?_
 refine bx λb1=>?_
 refine bx λb2=>?_
 refine cq ?_
 refine nt ?_
 refine sr ?_
 refine aZ rfl rfl rfl (bp rfl Jr LX) trivial λb3=>?_
 refine nt ?_
 refine aj ?_
 refine sr ?_
 refine fr 2 ?_
 refine lo JM ?_
 refine ja (cT rfl) ?_
 refine fl iq ?_
 refine fl fy ?_
 refine fr 3 ?_
 refine lo bW ?_
 refine aZ rfl rfl rfl (av [.tmp 11] rfl rfl Q1 rfl (rX a0.1)) ⟨rfl,trivial⟩ λb4=>?_
 refine nt ?_
 refine ai ?_
 refine gu (SE.nil 78 (.int .u8)) ?_
 refine dE 6 rfl ?_
 refine dE 6 rfl ?_
 refine dE 2 rfl ?_
 refine dE 6 rfl ?_
 refine dE 6 rfl ?_
 refine dE 6 rfl ?_
 refine dE 6 rfl ?_
 obtain⟨r8,s,h⟩:=aa h
 refine sF (Δ:=[.obj b4 3 (I a0.1),.obj c 135 (bf a0 z_a0),.obj b1 77 (Pt c),.obj b3 92 (.eq (.slice none 0 0)),.sl (.slice none 0 0) 78 (.int .u8) ([]:(List Int)),.obj b2 78 (.eq (.int .u8 a1)),.inv z_a0 (cj k a0)]) (F:=[]) (X:=Value) (J:=λ_=>PY r8.2) (E:=λz6=>[.obj b4 3 (I a0.1),.obj c 135 (bf a0 z_a0),.obj b1 77 (Pt c),.obj b3 92 (.eq z6),.sl z6 78 (.int .u8) r8.1,.obj b2 78 (.eq (.int .u8 a1)),.inv z_a0 (cj k a0)]) (r0:=λ_=>.tup .any) rfl rfl Nr (λrec hp ha hb hs hpe hN hv l=>?_) (λdl z6=>uK (λhj=>?_) (λhj=>?_))
 .
  rcases rec with⟨st0,pe0,fn0,tm0,ps0,as0,bd0,df0⟩;dsimp only at hp ha hb hs hpe hN hv;subst hp hs hpe;have vN:AS tm0 [(2,Pt b1),(3,Pt b2),(5,Pt b3)]:=⟨congrArg A.eq (hv 2 _ rfl).symm,congrArg A.eq (hv 3 _ rfl).symm,congrArg A.eq (hv 5 _ rfl).symm,trivial⟩;refine cC.pick (M:=(ec Tryz.prog)) [1,0,2,3,4,5,6,7] [1,0,2,3,4,5,6,7] (o7 (λ(z6:Value) (q:(List Int)×Bool)=>[.raw l (.loop (kQ ⟨.ready,none,fn0,tm0, #[13],as0,bd0,df0⟩ (PY q.2))),.obj c 135 (bf a0 z_a0),.obj b1 77 (Pt c),.obj b3 92 (.eq z6),.sl z6 78 (.int .u8) q.1,.obj b2 78 (.eq (.int .u8 a1)),.inv z_a0 (cj k a0)]) l (wT (λ(y5:(List Int)) (p7:Int)=>
  (i9 k a0 p7 a1).bind λr9=>
  if r9=true then((cf (bA (length y5+length [p7]))).bind λ_=>
  some (y5++[p7],true)) else(some (y5,true)))) k a0.1 b4 (λz6 q p r' h=>?_) (.slice none 0 0) (([]:(List Int)),false) r8 s) rfl (λ_=>rfl) (λ_=>rfl)
  obtain⟨rq,hq,h2,rfl⟩:=uL h;obtain⟨y5,b5⟩:=q;obtain rfl:b5=false:=hq;replace h:=ba h2;obtain⟨p7,hpv⟩:∃x,x=p:=⟨_,rfl⟩;subst hpv;refine YT.pick (R':=(λz6:Value=>(.eq (.bool rq.2),[.raw l (.loop (kQ ⟨.ready,none,fn0,tm0, #[13],as0,bd0,df0⟩ (PY (!rq.2)))),.obj c 135 (bf a0 z_a0),.obj b1 77 (Pt c),.obj b3 92 (.eq z6),.sl z6 78 (.int .u8) rq.1,.obj b2 78 (.eq (.int .u8 a1)),.inv z_a0 (cj k a0)]))) [0,1,2,3,4,5,6] [0,1,2,3,4,5,6] (IN ha hb (N:=23) (Γ:=[(2,Pt b1),(3,Pt b2),(5,Pt b3)]) rfl hN (by decide) vN (λS w=>?_)) rfl (λ_=>rfl) (λ_=>rfl);refine ab (aq (nl ?_));refine AZ rfl rfl ?_;refine ai (sr (fr 2 ?_));refine lo JM ?_;refine mq ?_;refine fr 5 ?_;refine lo qw ?_;obtain⟨r9,n,h⟩:=aa h;refine fr 6 ?_;refine fr 4 ?_;refine aS (Δ:=[_,_]) (F:=_) (λ_ _ _=>ah rfl _) rfl rfl (bo [.tmp 14,.tmp 15,.tmp 16] rfl rfl Rz rfl (ov k a0 c z_a0 p7 a1 r9 n)) ⟨rfl,rfl,rfl,trivial⟩ λ_=>?_;refine nt (cv h (λh=>?_) (λh=>?_))
  .refine ab (fr 5 ?_);refine lo xZ ?_;refine mq ?_;refine ja (aW (t:=(.int .u8)) [(.tmp 19,_)] [p7] rfl rfl J0 (.cons rfl .int .nil) rfl rfl) ?_;obtain⟨u,e,h⟩:=aa h;refine fr 6 ?_;refine cR rfl rfl rfl (bu rfl rfl J0 (ao e)) ⟨rfl,rfl,trivial⟩ λj=>?_;refine mg λo12=>?_;refine fr 1 ?_;refine aM rfl rfl (aK rfl xZ o12 rfl rfl) ⟨rfl,rfl,trivial⟩ ?_;refine aG (aI (bH 3 rfl ?_));refine bH 4 rfl ?_;refine bH 3 rfl ?_;refine bH 3 rfl ?_;refine bH 5 rfl ?_;refine bH 5 rfl ?_;refine bH 6 rfl ?_;cases h;exact pZ j 6 rfl
  .refine bi (aI (bH 1 rfl ?_));refine bH 2 rfl ?_;refine bH 6 rfl ?_;refine bH 6 rfl ?_;refine bH 5 rfl ?_;refine bH 5 rfl ?_;refine bH 6 rfl ?_;cases h;exact pZ z6 6 rfl
 .
  replace h:=cG (M6 hj) h;refine aI (tn (sr (fr 4 ?_)));refine lo xZ ?_;refine aq (nt (aC ?_));refine bH 5 rfl ?_;refine bM (ic (off:=0) [4,22] ⟨rfl,rfl,trivial⟩ rfl rfl) ?_;refine bH 1 rfl ?_;refine Es ?_;refine bM (SE.fin (Γ':=[(4,_)]) [2,5,0,1,3,4] ⟨rfl,trivial⟩ rfl) ?_;cases h;exact aP () [_] 2 ⟨rfl,trivial⟩ rfl
 .
  replace h:=dU (M4 hj) h;cases h
def nv(k:Nat)(a0:ae)(a1:(List Int))(a2:(List Int))(a3:(List Int)):Option ((Option ae)×(List Int)×Int):=
 (kx k a0 ([]:(List Int)) a1 a2 a3).bind λr2=>
 gI r2.1 (if¬(r2.2.2=0) then(some (none,([]:(List Int)),r2.2.2)) else(none)) (λq3=>if¬(r2.2.2=0) then(some (none,([]:(List Int)),r2.2.2)) else((ij k q3 0).bind λr5=>
 if(r5.length:Int)=0 then(some (none,([]:(List Int)),9)) else(some (some q3,r5,0))))
theorem nO(k:Nat)(a0:ae)(a1:(List Int))(a2:(List Int))(a3:(List Int))(r:(Option ae)×(List Int)×Int)(h:nv k a0 a1 a2 a3=some r):
 cC (ec Tryz.prog) 60 [.rep am a0,.rep Tl a1,.rep Tl a2,.rep Tl a3] [] (λz:Nat×Nat=>(bF [Kq r.1 z.1,.rep (.slice (.int .u8)) r.2.1,I r.2.2],Kp r.1 λq=>rp q z.1 z.2 k)):=by
 unfold nv at h
 replace h:=ba h
 refine cC.of 34 Tryz.func60 rfl Tryz.ntmps60 rfl λS w0=>?_
 refine sr ?_
 refine bx λb1=>?_
 refine cq ?_
 refine cq ?_
 refine cq ?_
 refine nt ?_
 refine sr ?_
 refine lo dk ?_
 iterate 3 refine mq ?_
 obtain⟨r2,j,h⟩:=aa h
 have c:=mK k a0 ([]:(List Int)) a1 a2 a3 r2 j
 rcases hr:r2.1 with _ |q3
 .
  rw [hr] at h c;replace h:=wG h;refine aS (Δ:=[]) (F:=_) (λ_ _ _=>ah rfl _) rfl rfl (cz (N:=[(.tmp 16,.rep am a0),(.const (.slice none 0 0),.eq (.slice none 0 0)),(.tmp 17,.rep Tl a1),(.tmp 18,.rep Tl a2),(.tmp 19,.rep Tl a3)]) (bo [.tmp 16,.const (.slice none 0 0),.tmp 17,.tmp 18,.tmp 19] rfl rfl As rfl c) λ_ _ _ hn=>⟨hn.1,(aN (t:=Tl) (x:=([]:(List Int))) .nil rfl rfl hn.2.1),hn.2.2.1,hn.2.2.2.1,hn.2.2.2.2.1,trivial⟩) ⟨rfl,rfl,rfl,rfl,rfl,trivial⟩ λ_=>?_;refine mq ?_;refine xr ?_;refine xr ?_;refine xr ?_;refine aq ?_;refine aq ?_;refine aq (nt (aj (sr ?_)));refine mq ?_;refine jb (d4 rfl) ?_;refine nt (cn h (λh=>?_) (λh=>?_))
  .refine sr (mq ?_);refine cq ?_;refine cq ?_;refine aq (nt (rx ?_));refine bM (ew (t:=(.slice (.int .u8))) (x:=([]:(List Int))) 9 rfl .nil rfl rfl) ?_;cases h;exact aP (0,0) [.eq (.pointer none),_,_] 0 ⟨rfl,rfl,rfl,trivial⟩ rfl
  .cases h
 .
  rw [hr] at h c;replace h:=wF h;refine aS (Δ:=[]) (F:=_) (λ_ _ _=>ah rfl _) rfl rfl (cz (N:=[(.tmp 16,.rep am a0),(.const (.slice none 0 0),.eq (.slice none 0 0)),(.tmp 17,.rep Tl a1),(.tmp 18,.rep Tl a2),(.tmp 19,.rep Tl a3)]) (bo [.tmp 16,.const (.slice none 0 0),.tmp 17,.tmp 18,.tmp 19] rfl rfl As rfl c) λ_ _ _ hn=>⟨hn.1,(aN (t:=Tl) (x:=([]:(List Int))) .nil rfl rfl hn.2.1),hn.2.2.1,hn.2.2.2.1,hn.2.2.2.2.1,trivial⟩) ⟨rfl,rfl,rfl,rfl,rfl,trivial⟩ λz4=>?_;refine mq ?_;refine xr ?_;refine xr ?_;refine xr ?_;refine aq ?_;refine aq ?_;refine aq (nt (aj (sr ?_)));refine mq ?_;refine jb (d4 rfl) ?_;refine nt (cn h (λh=>?_) (λh=>?_))
  .refine sr (mq ?_);refine cq ?_;refine cq ?_;refine aq (nt (rx ?_));refine bM (ew (t:=(.slice (.int .u8))) (x:=([]:(List Int))) 9 rfl .nil rfl rfl) ?_;cases h;exact aP (0,0) [.eq (.pointer none),_,_] 0 ⟨rfl,rfl,rfl,trivial⟩ rfl
  .refine sk (sr (mq ?_));obtain⟨r5,e,h⟩:=aa h;refine fr 1 ?_;refine fr 1 ?_;refine aS (Δ:=[_,_]) (F:=_) (λ_ _ _=>ah rfl _) rfl rfl (bo [.tmp 27,.const (.int .u8 (0))] rfl rfl Q5 rfl (kZ k q3 z4.1 z4.2 0 r5 e)) ⟨rfl,rfl,trivial⟩ λ_=>?_;refine aq (nt (aj (sr ?_)));refine mq ?_;refine ol Ba ?_;refine jb (jL rfl) ?_;refine nt (ci h (λh=>?_) (λh=>?_))
   .refine sr (cq ?_);refine cq ?_;refine cq (nt (rx ?_));refine bM (ew (t:=(.slice (.int .u8))) (x:=([]:(List Int))) 9 rfl .nil rfl rfl) ?_;cases h;exact aP (0,0) [.eq (.pointer none),_,_] 0 ⟨rfl,rfl,rfl,trivial⟩ rfl
   .refine sk (sr ?_);iterate 2 refine mq ?_
    refine aq ?_;refine aq ?_;refine cq (nt (aC ?_));cases h;exact aP (z4.1,z4.2) [.eq (.pointer (some ⟨z4.1,0,none⟩)),_,_] 2 ⟨rfl,rfl,rfl,trivial⟩ rfl
def mM(k:Nat)(a0:ae)(a1:Int)(r2:(Option ae)×(List Int)×Int)(q3:ae)(y7:(List Int)×Int):Nat->(Int×Int)->Option Int
 |0,_=>none
 |n+1,c=>
  if c.2 < (r2.2.1.length:Int) then((((aH r2.2.1 c.2).bind λr=>
  (mt k q3 r).bind λu=>
  (aH u a1).bind λl=>
  (aH l y7.2).bind λj=>
  if a0.2.2.1≤j then((ck (c.1+1)).bind λh=>
  some h) else(some c.1)):Option (Int)).bind λs=>
  (ck (c.2+1)).bind λe=>
  mM k a0 a1 r2 q3 y7 n (s,e)) else(some c.1)
def mN(k:Nat)(a0:ae)(a1:Int)(r2:(Option ae)×(List Int)×Int)(q3:ae):Nat->((List Int)×Int)->Option (List Int)
 |0,_=>none
 |n+1,y7=>
  if y7.2 < a0.1 then(((((mM k a0 a1 r2 q3 y7 k (0,0)):Option (Int)).bind λc=>
  (ck ((r2.2.1.length:Int) - c)).bind λe=>
  (cf (bA (length y7.1+length [tq c e]))).bind λ_=>
  some (y7.1++[tq c e])):Option ((List Int))).bind λx9=>
  (ck (y7.2+1)).bind λh=>
  mN k a0 a1 r2 q3 n (x9,h)) else(some y7.1)
def vf(k:Nat)(a0:ae)(a1:Int):Option (Int×Int×Int):=
 (nv k a0 ([]:(List Int)) ([]:(List Int)) [a1]).bind λr2=>
 gI r2.1 (if¬(r2.2.2=0) then(some (0,0,r2.2.2)) else(none)) (λq3=>if¬(r2.2.2=0) then(some (0,0,r2.2.2)) else(((mN k a0 a1 r2 q3 k (([]:(List Int)),0)):Option ((List Int))).bind λx5=>
 (mA k x5).bind λc=>
 if(r2.2.1.length:Int)≤c then(some (0,0,11)) else((gx k x5 c).bind λe=>
 some (e,c,0))))
theorem zX(k:Nat)(a0:ae)(a1:Int)(r:Int×Int×Int)(h:vf k a0 a1=some r):
 cC (ec Tryz.prog) 25 [.rep am a0,I a1] [] (λ_:Unit=>(bF [I r.1,I r.2.1,I r.2.2],[])):=by
 unfold vf at h
 replace h:=ba h
 refine cC.of 71 Tryz.func25 rfl Tryz.ntmps25 rfl λS w0=>?_
 refine sr ?_
 refine bx λb1=>?_
 refine cq ?_
 refine cq ?_
 refine cq ?_
 refine nt ?_
 refine sr ?_
 refine lo dk ?_
 refine mq ?_
 refine ja (aW (t:=Ti) [(.tmp 18,_)] [a1] rfl rfl c9 (.cons rfl .int .nil) rfl rfl) ?_
 obtain⟨r2,Vi,h⟩:=aa h
 have s:=nO k a0 ([]:(List Int)) ([]:(List Int)) [a1] r2 Vi
 rcases hr:r2.1 with _ |q3
 .
  rw [hr] at h s;replace h:=wG h;refine aS (Δ:=[]) (F:=_) (λ_ _ _=>ah rfl _) rfl rfl (cz (N:=[(.tmp 17,.rep am a0),(.const (.slice none 0 0),.eq (.slice none 0 0)),(.const (.slice none 0 0),.eq (.slice none 0 0)),(.tmp 19,.rep Tl [a1])]) (bo [.tmp 17,.const (.slice none 0 0),.const (.slice none 0 0),.tmp 19] rfl rfl E6 rfl s) λ_ _ _ hn=>⟨hn.1,(aN (t:=Tl) (x:=([]:(List Int))) .nil rfl rfl hn.2.1),(aN (t:=Tl) (x:=([]:(List Int))) .nil rfl rfl hn.2.2.1),hn.2.2.2.1,trivial⟩) ⟨rfl,rfl,rfl,rfl,trivial⟩ λ_=>?_;refine mq ?_;refine xr ?_;refine xr ?_;refine xr ?_;refine aq ?_;refine aq ?_;refine aq (nt (aj (sr ?_)));refine mq ?_;refine jb (d4 rfl) ?_;refine nt (cn h (λh=>?_) (λh=>?_))
  .refine sr (mq ?_);refine cq ?_;refine cq ?_;refine aq (nt (rx ?_));cases h;exact aP () [_,_,_] 0 ⟨rfl,rfl,rfl,trivial⟩ rfl
  .cases h
 .
  rw [hr] at h s;replace h:=wF h;refine aS (Δ:=[]) (F:=_) (λ_ _ _=>ah rfl _) rfl rfl (cz (N:=[(.tmp 17,.rep am a0),(.const (.slice none 0 0),.eq (.slice none 0 0)),(.const (.slice none 0 0),.eq (.slice none 0 0)),(.tmp 19,.rep Tl [a1])]) (bo [.tmp 17,.const (.slice none 0 0),.const (.slice none 0 0),.tmp 19] rfl rfl E6 rfl s) λ_ _ _ hn=>⟨hn.1,(aN (t:=Tl) (x:=([]:(List Int))) .nil rfl rfl hn.2.1),(aN (t:=Tl) (x:=([]:(List Int))) .nil rfl rfl hn.2.2.1),hn.2.2.2.1,trivial⟩) ⟨rfl,rfl,rfl,rfl,trivial⟩ λz4=>?_;refine mq ?_;refine xr ?_;refine xr ?_;refine xr ?_;refine aq ?_;refine aq ?_;refine aq (nt (aj (sr ?_)));refine mq ?_;refine jb (d4 rfl) ?_;refine nt (cn h (λh=>?_) (λh=>?_))
  .refine sr (mq ?_);refine cq ?_;refine cq ?_;refine aq (nt (rx ?_));cases h;exact aP () [_,_,_] 0 ⟨rfl,rfl,rfl,trivial⟩ rfl
  .refine sk (sr (cq (nt ?_)));refine aF (Z:=Value) (α:=(List Int)) (λz6 x5=>[(8,.rep (.slice (.int .u8)) r2.2.1),(10,.eq z6)]) (λz6 x5=>[.sl z6 3 Ti x5,.inv z4.2 (cj k q3)]) h (λK h=>?_) (λz6 x5 h=>?_)
   .refine sr (fl fy ?_);refine fr 2 ?_;refine lo bW ?_;refine fB rfl ?_;refine nt (ai (gu (SE.nil 3 Ti) ?_));refine aD (λz8 y7=>[(1,I a1),(2,Pt b1),(7,.eq (.pointer (some ⟨z4.1,0,none⟩))),(8,.rep (.slice (.int .u8)) r2.2.1),(10,.eq z8),(28,I a0.1),(29,I y7.2)]) (λz8 y7=>[.obj b1 25 (.rep am a0),.obj z4.1 135 (bf q3 z4.2),.sl z8 3 Ti y7.1,.inv z4.2 (cj k q3)]) (mN k a0 a1 r2 q3) k (.slice none 0 0) (([]:(List Int)),0) (λ_=>rfl) h (SE.fin [1,2,0,3] ⟨rfl,rfl,rfl,rfl,rfl,rfl,rfl,trivial⟩ rfl) (λn z8 y7 h=>?_);unfold mN at h;refine sr (jb (bq rfl) ?_);refine nt (aj (ci h (λh=>?_) (λh=>?_)))
    .refine sk (aF (Z:=Value) (α:=(List Int)) (λe x9=>[(1,I a1),(2,Pt b1),(7,.eq (.pointer (some ⟨z4.1,0,none⟩))),(8,.rep (.slice (.int .u8)) r2.2.1),(10,.eq e),(28,I a0.1),(29,I y7.2)]) (λe x9=>[.obj b1 25 (.rep am a0),.obj z4.1 135 (bf q3 z4.2),.sl e 3 Ti x9,.inv z4.2 (cj k q3)]) h (λK h=>?_) (λe x9 h=>?_))
     .refine ai (sr (mq ?_));refine aq (nt (sr ?_));refine cq (nt ?_);refine aF (Z:=Unit) (α:=Int) (λE j=>[(1,I a1),(2,Pt b1),(7,.eq (.pointer (some ⟨z4.1,0,none⟩))),(8,.rep (.slice (.int .u8)) r2.2.1),(10,.eq z8),(12,I j),(28,I a0.1),(29,I y7.2)]) (λE j=>[.obj b1 25 (.rep am a0),.obj z4.1 135 (bf q3 z4.2),.sl z8 3 Ti y7.1,.inv z4.2 (cj k q3)]) h (λK h=>?_) (λE j h=>?_)
      .refine sr (mq ?_);refine ol Ba ?_;refine fB rfl ?_;refine nt (ai (aD (λD c=>[(1,I a1),(2,Pt b1),(7,.eq (.pointer (some ⟨z4.1,0,none⟩))),(8,.rep (.slice (.int .u8)) r2.2.1),(10,.eq z8),(11,I y7.2),(12,I c.1),(28,I a0.1),(29,I y7.2),(32,.rep (.slice (.int .u8)) r2.2.1),(33,I (r2.2.1.length:Int)),(34,I c.2)]) (λD c=>[.obj b1 25 (.rep am a0),.obj z4.1 135 (bf q3 z4.2),.sl z8 3 Ti y7.1,.inv z4.2 (cj k q3)]) (mM k a0 a1 r2 q3 y7) k () (0,0) (λ_=>rfl) h (SE.fin [0,1,2,3] ⟨rfl,rfl,rfl,rfl,rfl,rfl,rfl,rfl,rfl,rfl,rfl,rfl,trivial⟩ rfl) (λn D c h=>?_)));unfold mM at h;refine sr (jb (bq rfl) ?_);refine nt (aj (ci h (λh=>?_) (λh=>?_)))
       .refine sk (aF (Z:=Unit) (α:=Int) (λy l=>[(1,I a1),(2,Pt b1),(7,.eq (.pointer (some ⟨z4.1,0,none⟩))),(8,.rep (.slice (.int .u8)) r2.2.1),(10,.eq z8),(11,I y7.2),(12,I l),(28,I a0.1),(29,I y7.2),(32,.rep (.slice (.int .u8)) r2.2.1),(33,I (r2.2.1.length:Int)),(34,I c.2)]) (λy l=>[.obj b1 25 (.rep am a0),.obj z4.1 135 (bf q3 z4.2),.sl z8 3 Ti y7.1,.inv z4.2 (cj k q3)]) h (λK h=>?_) (λy l h=>?_))
        .refine ai (sr ?_);obtain⟨Ve,gw,h⟩:=aa h;refine jb (aE (t:=(.int .u8)) rfl Ba qw gw) ?_;refine ja (an (t:=(.int .u8)) rfl qw rfl) ?_;refine aq (nt (aj ?_));refine bN ?_;refine dm ?_;refine dm ?_;obtain⟨Vh,zz,h⟩:=aa h;refine PP 1 3 rfl rfl (by kernel_rfl) rfl rfl rfl (bo [.tmp 38,.tmp 39] rfl rfl E8 rfl (pR k q3 z4.1 z4.2 Ve Vh zz)) ⟨rfl,rfl,trivial⟩ ?_;refine dm ?_;obtain⟨Vk,Y,h⟩:=aa h;refine db (oV (t:=Tr) rfl Jp jI rfl rfl (qe) Y) ?_;refine dm ?_;obtain⟨Vj,X,h⟩:=aa h;refine db (oV (t:=Ti) rfl CV bW rfl rfl (λ_=>rfl) X) ?_;refine da (au rfl tA) ?_;refine ea 0 (ap rfl bW jN rfl) ?_;refine df cS ?_;refine jb (jg rfl) ?_;refine nt (ci h (λh=>?_) (λh=>?_))
         .refine ab (mq ?_);obtain⟨Vb,U,h⟩:=aa h;refine jb (bj rfl U) ?_;refine aq (aG (bn ?_));exact jz ((),Vb) h [0,1,2,3]
         .refine bi (bn ?_);exact jz ((),c.1) h [0,1,2,3]
        .refine ab ?_;obtain⟨Va,Q,h⟩:=aa h;refine jb (bj rfl Q) ?_;refine mq (nl ?_);exact jz ((),(l,Va)) h [0,1,2,3]
       .refine xa ?_;exact jz ((),c.1) h [0,1,2,3]
      .refine ab ?_;iterate 3 refine mq ?_
       refine ol Ba ?_;refine mq ?_;obtain⟨J,O,h⟩:=aa h;refine jb (ek rfl O) ?_;refine jb (Ht rfl rfl) ?_;refine ja (aW (t:=Ti) [(.tmp 57,_)] [tq j J] rfl rfl c9 (.cons rfl .int .nil) rfl rfl) ?_;obtain⟨Vl,mc,h⟩:=aa h;refine fr 2 ?_;refine cR rfl rfl rfl (bu rfl rfl c9 (ao mc)) ⟨rfl,rfl,trivial⟩ λVf=>?_;refine aq (aG (bn ?_));exact jz (Vf,y7.1++[tq j J]) h [1,2,0,3]
     .refine ab ?_;obtain⟨U8,M,h⟩:=aa h;refine jb (bj rfl M) ?_;refine mq (nl ?_);exact jz (e,(x9,U8)) h [0,1,2,3]
    .refine xa ?_;exact jz (z8,y7.1) h [2,3]
   .refine sr (mq ?_);obtain⟨u,qt,h⟩:=aa h;refine ka (j6 (N:=[(.tmp 61,.eq z6)]) (av [.tmp 61] rfl rfl Q7 rfl (oK k x5 u qt)) (λ_ _ _ hv hn=>⟨(lend hn.1 hv),trivial⟩) (λ_=>⟨rfl,nz⟩)) ?_;refine aq (nt (aj (sr ?_)));iterate 2 refine mq ?_
    refine ol Ba ?_;refine jb (jg rfl) ?_;refine nt (ci h (λh=>?_) (λh=>?_))
    .refine sr (cq ?_);refine cq ?_;refine cq (nt (rx ?_));cases h;exact aP () [_,_,_] 0 ⟨rfl,rfl,rfl,trivial⟩ rfl
    .refine sk (sr ?_);iterate 2 refine mq ?_
     obtain⟨Vg,mw,h⟩:=aa h;refine kb (j6 (N:=[(.tmp 67,.eq z6),(.tmp 68,I u)]) (av [.tmp 67,.tmp 68] rfl rfl Q6 rfl (nj k x5 u Vg mw)) (λ_ _ _ hv hn=>⟨(lend hn.1 hv),hn.2.1,trivial⟩) (λ_=>⟨rfl,nz⟩)) ?_;refine mq ?_;refine aq ?_;refine aq ?_;refine cq (nt (aC ?_));cases h;exact aP () [_,_,_] 0 ⟨rfl,rfl,rfl,trivial⟩ rfl
def km(k:Nat)(r7:(List Int)):Nat->((List (List Int))×Int)->Option (List (List Int))
 |0,_=>none
 |n+1,y8=>
  if y8.2 < (r7.length:Int) then((aH r7 y8.2).bind λh=>
  (jw k h).bind λc=>
  (cf (bA (length y8.1+length [c]))).bind λ_=>
  (ck (y8.2+1)).bind λe=>
  km k r7 n (y8.1++[c],e)) else(some y8.1)
def qO(k:Nat)(a0:ae):Option ((List (List Int))×Int):=
 (kx k a0 ([]:(List Int)) ([]:(List Int)) ([]:(List Int)) ([]:(List Int))).bind λr2=>
 gI r2.1 (if¬(r2.2.2=0) then(some (([]:(List (List Int))),r2.2.2)) else(none)) (λq3=>if¬(r2.2.2=0) then(some (([]:(List (List Int))),r2.2.2)) else((((ij k q3 0).bind λr7=>
 km k r7 k (([]:(List (List Int))),0)):Option ((List (List Int)))).bind λx5=>
 some (x5,0)))
theorem wB(k:Nat)(a0:ae)(r:(List (List Int))×Int)(h:qO k a0=some r):
 cC (ec Tryz.prog) 28 [.rep am a0] [] (λ_:Unit=>(bF [.rep (.slice Tl) r.1,I r.2],[])):=by
 unfold qO at h
 replace h:=ba h
 refine cC.of 33 Tryz.func28 rfl Tryz.ntmps28 rfl λS w0=>?_
 refine sr ?_
 refine bx λb1=>?_
 refine cq ?_
 refine cq ?_
 refine nt ?_
 refine sr ?_
 refine lo dk ?_
 obtain⟨r2,M,h⟩:=aa h
 have c:=mK k a0 ([]:(List Int)) ([]:(List Int)) ([]:(List Int)) ([]:(List Int)) r2 M
 rcases hr:r2.1 with _ |q3
 .
  rw [hr] at h c;replace h:=wG h;refine aS (Δ:=[]) (F:=_) (λ_ _ _=>ah rfl _) rfl rfl (cz (N:=[(.tmp 11,.rep am a0),(.const (.slice none 0 0),.eq (.slice none 0 0)),(.const (.slice none 0 0),.eq (.slice none 0 0)),(.const (.slice none 0 0),.eq (.slice none 0 0)),(.const (.slice none 0 0),.eq (.slice none 0 0))]) (bo [.tmp 11,.const (.slice none 0 0),.const (.slice none 0 0),.const (.slice none 0 0),.const (.slice none 0 0)] rfl rfl As rfl c) λ_ _ _ hn=>⟨hn.1,(aN (t:=Tl) (x:=([]:(List Int))) .nil rfl rfl hn.2.1),(aN (t:=Tl) (x:=([]:(List Int))) .nil rfl rfl hn.2.2.1),(aN (t:=Tl) (x:=([]:(List Int))) .nil rfl rfl hn.2.2.2.1),(aN (t:=Tl) (x:=([]:(List Int))) .nil rfl rfl hn.2.2.2.2.1),trivial⟩) ⟨rfl,rfl,rfl,rfl,rfl,trivial⟩ λ_=>?_;refine mq ?_;refine xr ?_;refine xr ?_;refine xr ?_;refine aq ?_;refine aq ?_;refine aq (nt (aj (sr ?_)));refine mq ?_;refine jb (d4 rfl) ?_;refine nt (cn h (λh=>?_) (λh=>?_))
  .refine sr (mq ?_);refine cq ?_;refine aq (nt (rx ?_));refine bM (ew (t:=(.slice Tl)) (x:=([]:(List (List Int)))) 2 rfl .nil rfl rfl) ?_;cases h;exact rb
  .cases h
 .
  rw [hr] at h c;replace h:=wF h;refine aS (Δ:=[]) (F:=_) (λ_ _ _=>ah rfl _) rfl rfl (cz (N:=[(.tmp 11,.rep am a0),(.const (.slice none 0 0),.eq (.slice none 0 0)),(.const (.slice none 0 0),.eq (.slice none 0 0)),(.const (.slice none 0 0),.eq (.slice none 0 0)),(.const (.slice none 0 0),.eq (.slice none 0 0))]) (bo [.tmp 11,.const (.slice none 0 0),.const (.slice none 0 0),.const (.slice none 0 0),.const (.slice none 0 0)] rfl rfl As rfl c) λ_ _ _ hn=>⟨hn.1,(aN (t:=Tl) (x:=([]:(List Int))) .nil rfl rfl hn.2.1),(aN (t:=Tl) (x:=([]:(List Int))) .nil rfl rfl hn.2.2.1),(aN (t:=Tl) (x:=([]:(List Int))) .nil rfl rfl hn.2.2.2.1),(aN (t:=Tl) (x:=([]:(List Int))) .nil rfl rfl hn.2.2.2.2.1),trivial⟩) ⟨rfl,rfl,rfl,rfl,rfl,trivial⟩ λz4=>?_;refine mq ?_;refine xr ?_;refine xr ?_;refine xr ?_;refine aq ?_;refine aq ?_;refine aq (nt (aj (sr ?_)));refine mq ?_;refine jb (d4 rfl) ?_;refine nt (cn h (λh=>?_) (λh=>?_))
  .refine sr (mq ?_);refine cq ?_;refine aq (nt (rx ?_));refine bM (ew (t:=(.slice Tl)) (x:=([]:(List (List Int)))) 2 rfl .nil rfl rfl) ?_;cases h;exact rb
  .refine sk (sr (cq (nt ?_)));refine aF (Z:=Value) (α:=(List (List Int))) (λz6 x5=>[(7,.eq z6)]) (λz6 x5=>[.sl z6 28 Tl x5,.inv z4.2 (cj k q3)]) h (λK h=>?_) (λz6 x5 h=>?_)
   .refine sr (mq ?_);obtain⟨r7,J,h⟩:=aa h;refine fr 1 ?_;refine fr 1 ?_;refine aS (Δ:=[_,_]) (F:=_) (λ_ _ _=>ah rfl _) rfl rfl (bo [.tmp 19,.const (.int .u8 (0))] rfl rfl Q5 rfl (kZ k q3 z4.1 z4.2 0 r7 J)) ⟨rfl,rfl,trivial⟩ λ_=>?_;refine ol Ba ?_;refine fB rfl ?_;refine nt (ai (gu (SE.nil 28 Tl) ?_));refine aD (λz9 y8=>[(7,.eq z9),(20,.rep (.slice (.int .u8)) r7),(21,I (r7.length:Int)),(22,I y8.2)]) (λz9 y8=>[.sl z9 28 Tl y8.1,.inv z4.2 (cj k q3)]) (km k r7) k (.slice none 0 0) (([]:(List (List Int))),0) (λ_=>rfl) h (SE.fin [0,2] ⟨rfl,rfl,rfl,rfl,trivial⟩ rfl) (λn z9 y8 h=>?_);unfold km at h;refine sr (jb (bq rfl) ?_);refine nt (aj (ci h (λh=>?_) (λh=>?_)))
    .refine sk (aj (ai (sr ?_)));obtain⟨D,l,h⟩:=aa h;refine jb (aE (t:=(.int .u8)) rfl Ba qw l) ?_;refine ja (an (t:=(.int .u8)) rfl qw rfl) ?_;refine aq (nt (ab ?_));iterate 2 refine mq ?_
     obtain⟨e,u,h⟩:=aa h;refine ja (av [.tmp 27] rfl rfl OY rfl (kU k D e u)) ?_;refine ja (aW (t:=Tl) [(.tmp 28,_)] [e] rfl rfl nm (.cons rfl .rep .nil) rfl rfl) ?_;obtain⟨O,s,h⟩:=aa h;refine cR rfl rfl rfl (bu rfl rfl nm (ao s)) ⟨rfl,rfl,trivial⟩ λE=>?_;refine aq (aG (aI (tn (ab ?_))));obtain⟨y,j,h⟩:=aa h;refine jb (bj rfl j) ?_;refine mq (nl ?_);exact jz (E,(y8.1++[e],y)) h [0,1]
    .refine xa ?_;exact jz (z9,y8.1) h [0,1]
   .refine sr (mq ?_);refine aq ?_;refine cq (nt (aC ?_));refine bM (ie [2,7,32] ⟨rfl,rfl,rfl,trivial⟩) ?_;cases h;exact rb
def gd(k:Nat)(a2:Int)(r1:(List (List Int)))(x5:Int):Nat->Int->Option (Except Int Unit)
 |0,_=>none
 |n+1,y6=>
  if y6 < x5 then((aH r1 y6).bind λx8=>
  (aH x8 a2).bind λx9=>
  if 0≤x9 then(some (.error y6)) else((ck (y6+1)).bind λc=>
  gd k a2 r1 x5 n c)) else(some (.ok ()))
def iT(k:Nat)(a0:ae)(a1:Int)(a2:Int):Option Int:=
 (mt k a0 a1).bind λr1=>
 bE (α:=Unit) ((ck ((a0.2.2.2.2.1.length:Int)+1)).bind λx5=>
 gd k a2 r1 x5 k 0) (some) λ_=>
 some (-1:Int)
theorem lW(k:Nat)(a0:ae)(c z_a0:Nat)(a1:Int)(a2:Int)(r:Int)(h:iT k a0 a1 a2=some r):
 cC (ec Tryz.prog) 74 [Pt c,.eq (.int .u8 a1),I a2] [.obj c 135 (bf a0 z_a0),.inv z_a0 (cj k a0)] (λ_:Unit=>(bF [I r],[.obj c 135 (bf a0 z_a0),.inv z_a0 (cj k a0)])):=by
 unfold iT at h
 replace h:=ba h
 refine cC.of 30 Tryz.func74 rfl Tryz.ntmps74 rfl λS w0=>?_
 refine sr ?_
 refine cq ?_
 refine nt ?_
 refine sr ?_
 iterate 2 refine mq ?_
 obtain⟨r1,D,h⟩:=aa h
 have E:=pR k a0 c z_a0 a1 r1 D
 refine fr 1 ?_
 refine fr 1 ?_
 refine aS (Δ:=[_,_]) (F:=_) (λ_ _ _=>ah rfl _) rfl rfl (bo [.tmp 9,.tmp 10] rfl rfl E8 rfl E) ⟨rfl,rfl,trivial⟩ λ_=>?_
 refine aZ rfl rfl rfl (bp rfl F3 IM) trivial λb2=>?_
 refine aM rfl rfl (aK rfl GM rfl rfl rfl) ⟨rfl,rfl,trivial⟩ ?_
 refine ee (jZ (t:=(.arr 7 Tr)) (x:=r1) [7] .rep ⟨rfl,trivial⟩) ?_
 refine nt ?_
 refine cO (Z:=Unit) (α:=Unit) (λz4 x3=>[]) (λz4 x3=>[.obj c 135 (bf a0 z_a0),.inv z_a0 (cj k a0)]) (λe=>e=r) h (λe h=>Option.some.inj h) (λK hR h=>?_) (λz4 x3 h=>?_)
 .
  refine sr (mq ?_);refine ja (cT rfl) ?_;refine fl iq ?_;refine fl bS ?_;refine lo eH ?_;refine ol oy ?_;obtain⟨x5,y,h⟩:=aa h;refine jb (bj rfl y) ?_;refine fB rfl ?_;refine nt (ai (aD (λz7 y6=>[(2,I a2),(7,.at (.arr 7 Tr) r1),(18,I x5),(19,I y6)]) (λz7 y6=>[.obj c 135 (bf a0 z_a0),.inv z_a0 (cj k a0)]) (gd k a2 r1 x5) k () 0 (λ_=>rfl) h (SE.fin [0,1] ⟨rfl,rfl,rfl,rfl,trivial⟩ rfl) (λn z7 y6 h=>?_)));unfold gd at h;refine sr (jb (bq rfl) ?_);refine nt (aj (ci h (λh=>?_) (λh=>?_)))
  .refine sk (aj (ai (sr (mq ?_))));refine aq (nt (sr ?_));iterate 2 refine mq ?_
   obtain⟨x8,u,h⟩:=aa h;refine jb (cD (t:=Tr) rfl Jp jI u) ?_;obtain⟨x9,s,h⟩:=aa h;refine jb (cD (t:=Ti) rfl CV bW s) ?_;refine ja (an (t:=Ti) rfl bW rfl) ?_;refine jb (jg rfl) ?_;refine nt (ci h (λh=>?_) (λh=>?_))
   .refine sr (mq ?_);refine aq (nt (aC (br (aX (aY ?_)))));obtain rfl:=hR _ h;exact aP () [_] 2 ⟨rfl,trivial⟩ rfl
   .refine bi (aI (tn (ab ?_)));obtain⟨l,j,h⟩:=aa h;refine jb (bj rfl j) ?_;refine mq (nl ?_);exact jz ((),l) h [0,1]
  .refine xa ?_;exact jz ((),()) h [0,1]
 .
  refine sr (cq (nt (aC ?_)));cases h;exact aP () [_] 2 ⟨rfl,trivial⟩ rfl
def gK(k:Nat)(r2:(List (List Int)))(y6:Int×Int×(List (eQ×eQ))):Nat->Int->Option Int
 |0,_=>none
 |n+1,c=>
  ((if 0 < c then((ck (c - 1)).bind λl=>
  (aH r2 l).bind λj=>
  (aH j y6.1).bind λh=>
  some (decide (0≤h))) else(some false)):Option (Bool)).bind λr=>
  if r=true then((ck (c - 1)).bind λe=>
  gK k r2 y6 n e) else(some c)
def gP(k:Nat)(a0:ae)(r2:(List (List Int))):Nat->(Int×Int×(List (eQ×eQ)))->Option (List (fM×fM))
 |0,_=>none
 |n+1,y6=>
  bE (α:=Int×Int×(List (eQ×eQ))) (((gK k r2 y6 k y6.2.1):Option (Int)).bind λc=>
  if c=0 then((cf (zr (y6.1,y6.2.1))).bind λ_=>
  some (.error (BX y6.2.2 (y6.1,y6.2.1) ((-1:Int),0)))) else((ck (c - 1)).bind λr=>
  (aH r2 r).bind λl=>
  (ck (c - 1)).bind λj=>
  (dD k a0 l y6.1 j).bind λh=>
  (ck (c - 1)).bind λe=>
  (cf (zr (y6.1,y6.2.1))).bind λ_=>
  some (.ok (h,e,BX y6.2.2 (y6.1,y6.2.1) (h,e))))) (some) λx8=>
  gP k a0 r2 n (x8.1,x8.2.1,x8.2.2)
def lY(k:Nat)(a0:ae)(a1:Int)(a2:fM):Option (List (fM×fM)):=
 (mt k a0 a1).bind λr2=>
 gP k a0 r2 k (a2.1,a2.2,([]:List (eQ×eQ)))
theorem rW(k:Nat)(a0:ae)(c z_a0:Nat)(a1:Int)(a2:fM)(r:(List (fM×fM)))(h:lY k a0 a1 a2=some r):
 cC (ec Tryz.prog) 79 [Pt c,.eq (.int .u8 a1),.rep bV a2] [.obj c 135 (bf a0 z_a0),.inv z_a0 (cj k a0)] (λz:Nat=>(bF [.eq (.map (some z))],[.inv z (t9 r),.obj c 135 (bf a0 z_a0),.inv z_a0 (cj k a0)])):=by
 unfold lY at h
 replace h:=ba h
 refine cC.of 56 Tryz.func79 rfl Tryz.ntmps79 rfl λS w0=>?_
 refine sr ?_
 refine bx λb1=>?_
 refine cq ?_
 refine nt ?_
 refine sr ?_
 iterate 2 refine mq ?_
 obtain⟨r2,Vv,h⟩:=aa h
 have Vw:=pR k a0 c z_a0 a1 r2 Vv
 refine fr 2 ?_
 refine fr 2 ?_
 refine aS (Δ:=[_,_]) (F:=_) (λ_ _ _=>ah rfl _) rfl rfl (bo [.tmp 12,.tmp 13] rfl rfl E8 rfl Vw) ⟨rfl,rfl,trivial⟩ λ_=>?_
 refine aZ rfl rfl rfl (bp rfl F3 IM) trivial λb3=>?_
 refine aM rfl rfl (aK rfl GM rfl rfl rfl) ⟨rfl,rfl,trivial⟩ ?_
 refine ee (jZ (t:=(.arr 7 Tr)) (x:=r2) [7] .rep ⟨rfl,trivial⟩) ?_
 refine nt ?_
 refine sr ?_
 refine aZ rfl rfl rfl (xe rfl) trivial λz4=>?_
 refine ee (tK (t9 []) JJ) ?_
 refine aq ?_
 refine nt ?_
 refine sr ?_
 refine aZ rfl rfl rfl (bp rfl tP AO) trivial λb5=>?_
 refine nt ?_
 refine sr ?_
 refine fl yE ?_
 refine aM rfl rfl (aK rfl bW rfl rfl rfl) ⟨rfl,rfl,trivial⟩ ?_
 refine nt ?_
 refine ai ?_
 refine dE 4 rfl ?_
 refine gu (gf (a:=.rep bV a2) (a':=.agg (.pair (I a2.1) (I a2.2))) (AE.trans EE (AE.agg (AE.trans A3 (AE.pair AE.int AE.int))))) ?_
 refine aD (λz7 y6=>[(0,Pt c),(5,Pt b1),(7,.at (.arr 7 Tr) r2),(8,.eq (.map (some z4))),(9,Pt b5)]) (λz7 y6=>[.obj c 135 (bf a0 z_a0),.obj b1 110 (.agg (.pair (I y6.1) (I y6.2.1))),.obj b5 110 (.agg (.pair (I (-1:Int)) (I 0))),.inv z_a0 (cj k a0),.inv z4 (t9 y6.2.2)]) (gP k a0 r2) k () (a2.1,a2.2,([]:List (eQ×eQ))) (λ_=>rfl) h (SE.fin [3,0,1,4,2] ⟨rfl,rfl,rfl,rfl,rfl,trivial⟩ rfl) (λn z7 y6 h=>?_)
 unfold gP at h
 refine Ja (Z:=Unit) (α:=Int×Int×(List (eQ×eQ))) (λz9 x8=>[(0,Pt c),(5,Pt b1),(7,.at (.arr 7 Tr) r2),(8,.eq (.map (some z4))),(9,Pt b5)]) (λz9 x8=>[.obj c 135 (bf a0 z_a0),.obj b1 110 (.agg (.pair (I x8.1) (I x8.2.1))),.obj b5 110 (.agg (.pair (I (-1:Int)) (I 0))),.inv z_a0 (cj k a0),.inv z4 (t9 x8.2.2)]) (λe=>e=r) h (λe h=>Option.some.inj h) (λK hR h=>?_) (λz9 x8 h=>?_)
 .
  refine ai (sr (fl Lm ?_));refine fr 1 ?_;refine lo bW ?_;refine aq (nt ?_);refine aF (Z:=Unit) (α:=Int) (λO D=>[(0,Pt c),(5,Pt b1),(7,.at (.arr 7 Tr) r2),(8,.eq (.map (some z4))),(9,Pt b5),(10,I D)]) (λO D=>[.obj c 135 (bf a0 z_a0),.obj b1 110 (.agg (.pair (I y6.1) (I y6.2.1))),.obj b5 110 (.agg (.pair (I (-1:Int)) (I 0))),.inv z_a0 (cj k a0),.inv z4 (t9 y6.2.2)]) h (λK h=>?_) (λO D h=>?_)
  .refine ai (aD (λM s=>[(0,Pt c),(5,Pt b1),(7,.at (.arr 7 Tr) r2),(8,.eq (.map (some z4))),(9,Pt b5),(10,I s)]) (λM s=>[.obj c 135 (bf a0 z_a0),.obj b1 110 (.agg (.pair (I y6.1) (I y6.2.1))),.obj b5 110 (.agg (.pair (I (-1:Int)) (I 0))),.inv z_a0 (cj k a0),.inv z4 (t9 y6.2.2)]) (gK k r2 y6) k () y6.2.1 (λ_=>rfl) h (SE.fin [1,0,2,3,4] ⟨rfl,rfl,rfl,rfl,rfl,rfl,trivial⟩ rfl) (λn M s h=>?_));unfold gK at h;refine aj (aF (Z:=Unit) (α:=Bool) (λJ y=>[(0,Pt c),(5,Pt b1),(7,.at (.arr 7 Tr) r2),(8,.eq (.map (some z4))),(9,Pt b5),(10,I s),(30,.eq (.bool y))]) (λJ y=>[.obj c 135 (bf a0 z_a0),.obj b1 110 (.agg (.pair (I y6.1) (I y6.2.1))),.obj b5 110 (.agg (.pair (I (-1:Int)) (I 0))),.inv z_a0 (cj k a0),.inv z4 (t9 y6.2.2)]) h (λK h=>?_) (λJ y h=>?_))
   .refine bN ?_;refine dm ?_;refine db (iD rfl) ?_;refine lx rfl rfl rfl (aO rfl) ⟨rfl,trivial⟩ (λhb=>?_) (λhb=>?_)
    .replace h:=dU (uA hb) h;refine bg rfl rfl rfl rfl rfl (aO rfl) ⟨rfl,rfl,trivial⟩ ?_;obtain⟨VE,Ve,h⟩:=aa h;refine bg rfl rfl rfl rfl rfl (ek rfl Ve) ⟨rfl,rfl,rfl,trivial⟩ ?_;refine bg rfl rfl rfl rfl rfl (au rfl yE) ⟨rfl,rfl,trivial⟩ ?_;refine iZ 1 rfl rfl rfl rfl rfl rfl (ap rfl bW jN rfl) ⟨rfl,rfl,trivial⟩ ?_;obtain⟨VD,Vb,h⟩:=aa h;refine bg rfl rfl rfl rfl rfl (cD (t:=Tr) rfl Jp jI Vb) ⟨rfl,rfl,rfl,trivial⟩ ?_;refine df cS ?_;obtain⟨Vl,Va,h⟩:=aa h;refine gb (cD (t:=Ti) rfl CV bW Va) ?_;refine ga (an (t:=Ti) rfl bW rfl) ?_;refine gb (jg rfl) ?_;refine pt (nl ?_);exact jz ((),decide (0≤Vl)) h [0,1,2,3,4]
    .replace h:=cG (uB hb) h;iterate 5 refine dg ?_
     refine df cS ?_;iterate 3 refine gn ?_
     refine pf (nl ?_);exact jz ((),false) h [0,1,2,3,4]
   .refine cv h (λh=>?_) (λh=>?_)
    .refine sk (ai (ab (mq ?_)));obtain⟨Vk,U8,h⟩:=aa h;refine jb (ek rfl U8) ?_;refine aq (aG (bn ?_));exact jz ((),Vk) h [0,1,2,3,4]
    .refine xa ?_;exact jz ((),s) h [0,1,2,3,4]
  .refine aj (sr (mq ?_));refine jb (jL rfl) ?_;refine nt (ci h (λh=>?_) (λh=>?_))
   .refine sr (mq ?_);refine fr 1 ?_;refine lo kp ?_;refine fr 2 ?_;refine lo kp ?_;refine ee (ew (t:=bV) (x:=(y6.1,y6.2.1)) 36 rfl (.agg (.pair .int .int)) trivial rfl) ?_;obtain⟨VU,Vg,h⟩:=aa h;refine ee (ew (t:=bV) (x:=((-1:Int),0)) 37 rfl (.agg (.pair .int .int)) trivial rfl) ?_;refine fr 4 ?_;refine aM rfl rfl (rO (K:=lJ) (V:=lJ) (t:=(y6.1,y6.2.1)) (n:=((-1:Int),0)) (l:=y6.2.2) (λ_ _ _ h=>nH h) rfl FH ng (λ_ _ _ h=>nH h) (rC (ao Vg)) (rA _) rD) ⟨rfl,rfl,rfl,trivial⟩ ?_;refine nt (sr (mq ?_));refine aq (nt (rx (br (aX ?_))));refine bM (SE.fin (Γ':=[(6,_)]) [0,3,4,1,2] ⟨rfl,trivial⟩ rfl) ?_;obtain rfl:=hR _ h;exact aP z4 [.eq (.map (some z4))] 3 ⟨rfl,trivial⟩ rfl
   .refine sk (aj (px ?_));refine bD rfl rfl rfl (aO rfl) ⟨rfl,trivial⟩ ?_;refine bD rfl rfl rfl (aO rfl) ⟨rfl,trivial⟩ ?_;obtain⟨VC,zz,h⟩:=aa h;refine bD rfl rfl rfl (ek rfl zz) ⟨rfl,rfl,trivial⟩ ?_;obtain⟨Vj,qt,h⟩:=aa h;refine bD rfl rfl rfl (cD (t:=Tr) rfl Jp jI qt) ⟨rfl,rfl,trivial⟩ ?_;refine bD rfl rfl rfl (an (t:=Tr) rfl jI rfl) ⟨rfl,trivial⟩ ?_;refine bD rfl rfl rfl (au rfl yE) ⟨rfl,trivial⟩ ?_;refine iy 1 rfl rfl rfl rfl (ap rfl bW jN rfl) ⟨rfl,trivial⟩ ?_;refine bD rfl rfl rfl (aO rfl) ⟨rfl,trivial⟩ ?_;obtain⟨Vi,mw,h⟩:=aa h;refine bD rfl rfl rfl (ek rfl mw) ⟨rfl,rfl,trivial⟩ ?_;obtain⟨j,Vh,h⟩:=aa h;refine iy 0 rfl rfl rfl rfl (av [.tmp 39,.tmp 43,.tmp 45,.tmp 47] rfl rfl Nu rfl (ou k a0 c z_a0 Vj y6.1 Vi j Vh)) ⟨rfl,rfl,rfl,rfl,trivial⟩ ?_;refine bD rfl rfl rfl (aO rfl) ⟨rfl,trivial⟩ ?_;obtain⟨u,mc,h⟩:=aa h;refine bD rfl rfl rfl (ek rfl mc) ⟨rfl,rfl,trivial⟩ ?_;refine bD rfl rfl rfl (eo [(0,.tmp 48,_),(1,.tmp 50,_)] rfl Hk tP CO (ku ⟨rfl,rfl,trivial⟩) rfl) ⟨rfl,rfl,trivial⟩ ?_;refine Ew (J7 110 (.agg (.pair (I 0) (I 0)))) (λ_=>rfl) rfl rfl rfl (bp rfl tP AO) trivial ?_;refine tO 14 [true,true,true,true,true,true,true,true,true,true,true,true,true,true] [] [] [] rfl (by kernel_rfl) (by kernel_rfl) (by kernel_rfl) cS (λvs hv hB=>?_);obtain⟨w0,VS,rfl,Vu⟩:=aA hv;obtain⟨w1,VQ,rfl,Vt⟩:=aA Vu;obtain⟨w2,VP,rfl,Vs⟩:=aA Vt;obtain⟨w3,VO,rfl,Vr⟩:=aA Vs;obtain⟨w4,VN,rfl,Vq⟩:=aA Vr;obtain⟨w5,VM,rfl,Vp⟩:=aA Vq;obtain⟨w6,VL,rfl,Vo⟩:=aA Vp;obtain⟨w7,VK,rfl,Vn⟩:=aA Vo;obtain⟨w8,VJ,rfl,Vm⟩:=aA Vn;obtain⟨w9,VB,rfl,gw⟩:=aA Vm;obtain⟨VI,VA,rfl,Y⟩:=aA gw;obtain⟨VH,Vz,rfl,X⟩:=aA Y;obtain⟨VG,Vy,rfl,U⟩:=aA X;obtain⟨VF,Vx,rfl,Q⟩:=aA U;obtain rfl:=pL Q;obtain⟨E,rfl⟩:=Hg hB.2.2.2.2.2.2.2.2.2.2.2.2.2.1;refine⟨[0,1,2,3,4,5],[.obj c 135 (bf a0 z_a0),.obj b1 110 (.agg (.pair (I y6.1) (I y6.2.1))),.obj b5 110 (.agg (.pair (I (-1:Int)) (I 0))),.inv z_a0 (cj k a0),.inv z4 (t9 y6.2.2),.obj E 110 (.agg (.pair (I 0) (I 0)))],by kernel_rfl,by decide,?_⟩;refine sE 5 rfl ?_;refine rj rfl rfl (aK rfl kp trivial rfl rfl) ⟨rfl,rfl,trivial⟩ (by kernel_rfl) ?_;refine vQ ?_;refine bM (SE.fin (Γ':=[(0,Pt c),(5,Pt b1),(7,.at (.arr 7 Tr) r2),(8,.eq (.map (some z4))),(9,Pt b5),(11,Pt E)]) (Δ':=[.obj E 110 (.agg (.pair (I j) (I u))),.obj c 135 (bf a0 z_a0),.obj b1 110 (.agg (.pair (I y6.1) (I y6.2.1))),.obj b5 110 (.agg (.pair (I (-1:Int)) (I 0))),.inv z_a0 (cj k a0),.inv z4 (t9 y6.2.2)]) [0,1,2,3,4,5] ⟨rfl,rfl,rfl,rfl,rfl,rfl,trivial⟩ rfl) ?_;refine tn (sr (mq ?_));refine fr 2 ?_;refine lo kp ?_;refine fr 1 ?_;refine lo kp ?_;refine ee (ew (t:=bV) (x:=(y6.1,y6.2.1)) 53 rfl (.agg (.pair .int .int)) trivial rfl) ?_;obtain⟨VT,Vf,h⟩:=aa h;refine ee (ew (t:=bV) (x:=(j,u)) 54 rfl (.agg (.pair .int .int)) trivial rfl) ?_;refine fr 5 ?_;refine aM rfl rfl (rO (K:=lJ) (V:=lJ) (t:=(y6.1,y6.2.1)) (n:=(j,u)) (l:=y6.2.2) (λ_ _ _ h=>nH h) rfl FH ng (λ_ _ _ h=>nH h) (rC (ao Vf)) (rA _) rD) ⟨rfl,rfl,rfl,trivial⟩ ?_
    refine nt (ab (fr 1 ?_));refine lo kp ?_;refine fr 2 ?_;refine aM rfl rfl (aK rfl kp trivial rfl rfl) ⟨rfl,rfl,trivial⟩ ?_;refine aG (bn ?_);exact jz ((),(j,u,BX y6.2.2 (y6.1,y6.2.1) (j,u))) h [3,0,4,5,2]
 .
  refine ax ?_;exact jz ((),(x8.1,x8.2.1,x8.2.2)) h [0,1,2,3,4]
def lm(k:Nat)(r7:(List (fM×fM))):Nat->(Int×Int×(List Int))->Option (List Int)
 |0,_=>none
 |n+1,c=>
  (cf (zr (c.1,c.2.1))).bind λ_=>
  if¬((nS r7 (c.1,c.2.1) (0,0))=((-1:Int),0)) then((cf (zr (c.1,c.2.1))).bind λ_=>
  (cf (bA (length c.2.2+length [(nS r7 (c.1,c.2.1) (0,0)).1]))).bind λ_=>
  (cf (zr (c.1,c.2.1))).bind λ_=>
  lm k r7 n ((nS r7 (c.1,c.2.1) (0,0)).1,(nS r7 (c.1,c.2.1) (0,0)).2,c.2.2++[(nS r7 (c.1,c.2.1) (0,0)).1])) else(some c.2.2)
def tc(k:Nat)(a0:ae)(a1:(List Int))(a2:Int):Option ((List Int)×Int):=
 (kx k a0 a1 [a2] ([]:(List Int)) ([]:(List Int))).bind λr2=>
 gI r2.1 (if¬(r2.2.2=0) then(some (([]:(List Int)),r2.2.2)) else(none)) (λq3=>if¬(r2.2.2=0) then(some (([]:(List Int)),r2.2.2)) else((iT k q3 r2.2.1 a2).bind λr5=>
 if r5 < 0 then(some (([]:(List Int)),11)) else((lY k q3 r2.2.1 (a2,r5)).bind λr7=>
 ((lm k r7 k (a2,r5,[a2])):Option ((List Int))).bind λc=>
 (kO k c).bind λe=>
 some (e,0))))
theorem yt(k:Nat)(a0:ae)(a1:(List Int))(a2:Int)(r:(List Int)×Int)(h:tc k a0 a1 a2=some r):
 cC (ec Tryz.prog) 38 [.rep am a0,.rep Tl a1,I a2] [] (λ_:Unit=>(bF [.rep Tl r.1,I r.2],[])):=by
 unfold tc at h
 replace h:=ba h
 refine cC.of 64 Tryz.func38 rfl Tryz.ntmps38 rfl λS w0=>?_
 refine sr ?_
 refine bx λb1=>?_
 refine cq ?_
 refine cq ?_
 refine nt ?_
 refine sr ?_
 refine lo dk ?_
 iterate 2 refine mq ?_
 refine ja (aW (t:=Ti) [(.tmp 19,_)] [a2] rfl rfl c9 (.cons rfl .int .nil) rfl rfl) ?_
 obtain⟨r2,Y,h⟩:=aa h
 have u:=mK k a0 a1 [a2] ([]:(List Int)) ([]:(List Int)) r2 Y
 rcases hr:r2.1 with _ |q3
 .
  rw [hr] at h u;replace h:=wG h;refine aS (Δ:=[]) (F:=_) (λ_ _ _=>ah rfl _) rfl rfl (cz (N:=[(.tmp 17,.rep am a0),(.tmp 18,.rep Tl a1),(.tmp 20,.rep Tl [a2]),(.const (.slice none 0 0),.eq (.slice none 0 0)),(.const (.slice none 0 0),.eq (.slice none 0 0))]) (bo [.tmp 17,.tmp 18,.tmp 20,.const (.slice none 0 0),.const (.slice none 0 0)] rfl rfl As rfl u) λ_ _ _ hn=>⟨hn.1,hn.2.1,hn.2.2.1,(aN (t:=Tl) (x:=([]:(List Int))) .nil rfl rfl hn.2.2.2.1),(aN (t:=Tl) (x:=([]:(List Int))) .nil rfl rfl hn.2.2.2.2.1),trivial⟩) ⟨rfl,rfl,rfl,rfl,rfl,trivial⟩ λ_=>?_;refine mq ?_;refine xr ?_;refine xr ?_;refine xr ?_;refine aq ?_;refine aq ?_;refine aq (nt (aj (sr ?_)));refine mq ?_;refine jb (d4 rfl) ?_;refine nt (cn h (λh=>?_) (λh=>?_))
  .refine sr (mq ?_);refine cq ?_;refine aq (nt (rx ?_));refine bM (ew (t:=Tl) (x:=([]:(List Int))) 6 rfl .nil rfl rfl) ?_;cases h;exact rb
  .cases h
 .
  rw [hr] at h u;replace h:=wF h;refine aS (Δ:=[]) (F:=_) (λ_ _ _=>ah rfl _) rfl rfl (cz (N:=[(.tmp 17,.rep am a0),(.tmp 18,.rep Tl a1),(.tmp 20,.rep Tl [a2]),(.const (.slice none 0 0),.eq (.slice none 0 0)),(.const (.slice none 0 0),.eq (.slice none 0 0))]) (bo [.tmp 17,.tmp 18,.tmp 20,.const (.slice none 0 0),.const (.slice none 0 0)] rfl rfl As rfl u) λ_ _ _ hn=>⟨hn.1,hn.2.1,hn.2.2.1,(aN (t:=Tl) (x:=([]:(List Int))) .nil rfl rfl hn.2.2.2.1),(aN (t:=Tl) (x:=([]:(List Int))) .nil rfl rfl hn.2.2.2.2.1),trivial⟩) ⟨rfl,rfl,rfl,rfl,rfl,trivial⟩ λz4=>?_;refine mq ?_;refine xr ?_;refine xr ?_;refine xr ?_;refine aq ?_;refine aq ?_;refine aq (nt (aj (sr ?_)));refine mq ?_;refine jb (d4 rfl) ?_;refine nt (cn h (λh=>?_) (λh=>?_))
  .refine sr (mq ?_);refine cq ?_;refine aq (nt (rx ?_));refine bM (ew (t:=Tl) (x:=([]:(List Int))) 6 rfl .nil rfl rfl) ?_;cases h;exact rb
  .refine sk (sr ?_);iterate 3 refine mq ?_
   obtain⟨r5,X,h⟩:=aa h;refine fr 1 ?_;refine fr 1 ?_;refine aS (Δ:=[_,_]) (F:=_) (λ_ _ _=>ah rfl _) rfl rfl (bo [.tmp 28,.tmp 29,.tmp 30] rfl rfl Q4 rfl (lW k q3 z4.1 z4.2 r2.2.1 a2 r5 X)) ⟨rfl,rfl,rfl,trivial⟩ λ_=>?_;refine aq (nt (aj (sr ?_)));refine mq ?_;refine jb (bq rfl) ?_;refine nt (ci h (λh=>?_) (λh=>?_))
   .refine sr (cq ?_);refine cq (nt (rx ?_));refine bM (ew (t:=Tl) (x:=([]:(List Int))) 6 rfl .nil rfl rfl) ?_;cases h;exact rb
   .refine sk (sr ?_);iterate 2 refine mq ?_
    refine jb (eo [(0,.tmp 34,_),(1,.tmp 35,_)] rfl Hk tP CO (ku ⟨rfl,rfl,trivial⟩) rfl) ?_;refine aZ rfl rfl rfl (bp rfl tP AO) trivial λb6=>?_;refine aM rfl rfl (aK rfl kp trivial rfl rfl) ⟨rfl,rfl,trivial⟩ ?_;refine nt (sr ?_);iterate 2 refine mq ?_
    refine lo kp ?_;obtain⟨r7,U,h⟩:=aa h;refine fr 2 ?_;refine fr 2 ?_;refine aS (Δ:=[_,_]) (F:=_) (λ_ _ _=>ah rfl _) rfl rfl (cz (N:=[(.tmp 37,.eq (.pointer (some ⟨z4.1,0,none⟩))),(.tmp 38,.eq (.int .u8 r2.2.1)),(.tmp 39,.agg (.pair (I a2) (I r5)))]) (bo [.tmp 37,.tmp 38,.tmp 39] rfl rfl TV rfl (rW k q3 z4.1 z4.2 r2.2.1 (a2,r5) r7 U)) λ_ _ _ hn=>⟨hn.1,hn.2.1,(aN (t:=bV) (x:=(a2,r5)) (.agg (.pair .int .int)) trivial rfl hn.2.2.1),trivial⟩) ⟨rfl,rfl,rfl,trivial⟩ λz8=>?_;refine aq (nt (sr ?_));refine mq ?_;refine aZ rfl rfl rfl (i7 (t:=Ti) [(.tmp 41,_)] [a2] rfl rfl c9 (.cons rfl .int .nil) rfl rfl) ⟨rfl,trivial⟩ λv9=>?_;refine aq (nt ?_);refine aF (Z:=Value) (α:=(List Int)) (λj s=>[(13,.eq (.map (some z8))),(14,.eq j)]) (λj s=>[.sl j 3 Ti s,.inv z4.2 (cj k q3),.inv z8 (t9 r7)]) h (λK h=>?_) (λj s h=>?_)
    .refine sr (ja (eo [(0,.const (.int .i64 (-1)),_)] rfl Hk tP CO (ku ⟨rfl,trivial⟩) rfl) ?_);refine aZ rfl rfl rfl (bp rfl tP AO) trivial λmc=>?_;refine aM rfl rfl (aK rfl kp trivial rfl rfl) ⟨rfl,rfl,trivial⟩ ?_;refine nt (ai (aD (λe c=>[(12,Pt b6),(13,.eq (.map (some z8))),(14,.eq e.1),(15,.eq (.pointer (some ⟨e.2,0,none⟩)))]) (λe c=>[.obj b6 110 (.agg (.pair (I c.1) (I c.2.1))),.sl e.1 3 Ti c.2.2,.obj e.2 110 (.agg (.pair (I (-1:Int)) (I 0))),.inv z4.2 (cj k q3),.inv z8 (t9 r7)]) (lm k r7) k (v9,mc) (a2,r5,[a2]) (λ_=>rfl) h (SE.fin [5,1,0,4,2] ⟨rfl,rfl,rfl,rfl,trivial⟩ rfl) (λn e c h=>?_)));unfold lm at h;refine aj (aj (bN ?_));refine dm ?_;refine ea 0 (ap rfl kp (qe) rfl) ?_;obtain⟨zz,J,h⟩:=aa h;refine eb 4 (cz (N:=[(.tmp 44,.eq (.map (some z8))),(.tmp 45,.agg (.pair (I c.1) (I c.2.1)))]) (sW (K:=lJ) (V:=lJ) (t:=(c.1,c.2.1)) (l:=r7) (λn=>.rep bV n) uJ rfl FH (0,0) uI ng (λ_ _ _ h=>nH h) (rC (ao J)) (rA _) rD) λ_ _ _ hn=>⟨hn.1,(aN (t:=bV) (x:=(c.1,c.2.1)) (.agg (.pair .int .int)) trivial rfl hn.2.1),trivial⟩) ?_;refine ea 2 (ap rfl kp (qe) rfl) ?_;refine df cS ?_;refine ee (ew (t:=bV) (x:=((-1:Int),0)) 47 rfl (.agg (.pair .int .int)) trivial rfl) ?_;refine jb (Hr rfl QY rfl) ?_;refine nt (cn h (λh=>?_) (λh=>?_))
     .refine sk (aj (ai (ab ?_)));iterate 2 refine mq ?_
      refine lo kp ?_;refine ee (ew (t:=bV) (x:=(c.1,c.2.1)) 54 rfl (.agg (.pair .int .int)) trivial rfl) ?_;obtain⟨u16,E,h⟩:=aa h;refine fr 4 ?_;refine kb (cz (N:=[(.tmp 53,.eq (.map (some z8))),(.tmp 54,.rep bV (c.1,c.2.1))]) (sW (K:=lJ) (V:=lJ) (t:=(c.1,c.2.1)) (l:=r7) (λn=>.rep bV n) uJ rfl FH (0,0) uI ng (λ_ _ _ h=>nH h) (rC (ao E)) (rA _) rD) λ_ _ _ hn=>⟨hn.1,hn.2.1,trivial⟩) ?_;refine ja (Kx rfl UA rfl bW (λ_=>rfl) rfl rfl rfl) ?_;refine ja (aW (t:=Ti) [(.tmp 56,_)] [(nS r7 (c.1,c.2.1) (0,0)).1] rfl rfl c9 (.cons rfl .int .nil) rfl rfl) ?_;obtain⟨qt,D,h⟩:=aa h;refine fr 2 ?_;refine cR rfl rfl rfl (bu rfl rfl c9 (ao D)) ⟨rfl,rfl,trivial⟩ λO=>?_;refine aq (aG (aI (tn (aj (sr ?_)))));refine fr 3 ?_;refine lo kp ?_;refine nt (ab (aZ rfl rfl rfl (bp rfl tP AO) trivial λgw=>?_));refine aM rfl rfl (aK rfl kp trivial rfl rfl) ⟨rfl,rfl,trivial⟩ ?_;refine nt (ab (mq ?_));refine fr 4 ?_;refine lo kp ?_;refine ee (ew (t:=bV) (x:=(c.1,c.2.1)) 50 rfl (.agg (.pair .int .int)) trivial rfl) ?_;obtain⟨mw,y,h⟩:=aa h;refine fr 4 ?_;refine kb (cz (N:=[(.tmp 49,.eq (.map (some z8))),(.tmp 50,.rep bV (c.1,c.2.1))]) (sW (K:=lJ) (V:=lJ) (t:=(c.1,c.2.1)) (l:=r7) (λn=>.rep bV n) uJ rfl FH (0,0) uI ng (λ_ _ _ h=>nH h) (rC (ao y)) (rA _) rD) λ_ _ _ hn=>⟨hn.1,hn.2.1,trivial⟩) ?_;refine fr 1 ?_;refine aM rfl rfl (aK rfl kp rfl rfl rfl) ⟨rfl,rfl,trivial⟩ ?_;refine nl (bM (gf (a:=.rep bV (nS r7 (c.1,c.2.1) (0,0))) (a':=.agg (.pair (I ((nS r7 (c.1,c.2.1) (0,0)).1)) (I ((nS r7 (c.1,c.2.1) (0,0)).2)))) (AE.trans EE (AE.agg (AE.trans A3 (AE.pair AE.int AE.int))))) ?_);exact jz ((O,gw),((nS r7 (c.1,c.2.1) (0,0)).1,(nS r7 (c.1,c.2.1) (0,0)).2,c.2.2++[(nS r7 (c.1,c.2.1) (0,0)).1])) h [0,4,2,5,1]
     .refine xa ?_;exact jz (e.1,c.2.2) h [1,3,4]
    .refine sr (mq ?_);refine fr 2 ?_;refine aM rfl rfl (Hw rfl rfl FH) ⟨rfl,trivial⟩ ?_;refine nt (sr (mq ?_));obtain⟨Q,M,h⟩:=aa h;refine fr 1 ?_;refine ka (av [.tmp 61] rfl rfl TU rfl (qz k s j Q M)) ?_;refine nt (sr (mq ?_));refine aq ?_;refine cq (nt (aC ?_));refine bM (ie [6,14,61,63] ⟨rfl,rfl,rfl,rfl,trivial⟩) ?_;cases h;exact rb
def ll(k:Nat)(a1:Int)(r3:(Option ae)×(List Int)×Int)(q4:ae):Nat->((List Int)×Int)->Option (List Int)
 |0,_=>none
 |n+1,y8=>
  if y8.2 < (r3.2.1.length:Int) then((((aH r3.2.1 y8.2).bind λh=>
  (iT k q4 h a1).bind λc=>
  if 0≤c then((cf (bA (length y8.1+length [c]))).bind λ_=>
  some (y8.1++[c])) else(some y8.1)):Option ((List Int))).bind λj=>
  (ck (y8.2+1)).bind λe=>
  ll k a1 r3 q4 n (j,e)) else(some y8.1)
def ta(k:Nat)(a0:ae)(a1:Int):Option (fM×Int):=
 (nv k a0 [a1] ([]:(List Int)) ([]:(List Int))).bind λr3=>
 gI r3.1 (if¬(r3.2.2=0) then(some ((0,0),r3.2.2)) else(none)) (λq4=>if¬(r3.2.2=0) then(some ((0,0),r3.2.2)) else(((ll k a1 r3 q4 k (([]:(List Int)),0)):Option ((List Int))).bind λx6=>
 if(x6.length:Int)=0 then(some ((0,0),11)) else((mA k x6).bind λe=>
 (oL k x6).bind λc=>
 some ((e,c),0))))
theorem yr(k:Nat)(a0:ae)(a1:Int)(r:fM×Int)(h:ta k a0 a1=some r):
 cC (ec Tryz.prog) 42 [.rep am a0,I a1] [] (λ_:Unit=>(bF [.rep bV r.1,I r.2],[])):=by
 unfold ta at h
 replace h:=ba h
 refine cC.of 51 Tryz.func42 rfl Tryz.ntmps42 rfl λS w0=>?_
 refine sr ?_
 refine bx λb1=>?_
 refine aZ rfl rfl rfl (bp rfl Bc RI) trivial λb2=>?_
 refine cq ?_
 refine nt ?_
 refine sr ?_
 refine fr 1 ?_
 refine lo dk ?_
 refine mq ?_
 refine ja (aW (t:=Ti) [(.tmp 15,_)] [a1] rfl rfl c9 (.cons rfl .int .nil) rfl rfl) ?_
 obtain⟨r3,Y,h⟩:=aa h
 have s:=nO k a0 [a1] ([]:(List Int)) ([]:(List Int)) r3 Y
 rcases hr:r3.1 with _ |q4
 .
  rw [hr] at h s;replace h:=wG h;refine aS (Δ:=[]) (F:=_) (λ_ _ _=>ah rfl _) rfl rfl (cz (N:=[(.tmp 14,.rep am a0),(.tmp 16,.rep Tl [a1]),(.const (.slice none 0 0),.eq (.slice none 0 0)),(.const (.slice none 0 0),.eq (.slice none 0 0))]) (bo [.tmp 14,.tmp 16,.const (.slice none 0 0),.const (.slice none 0 0)] rfl rfl E6 rfl s) λ_ _ _ hn=>⟨hn.1,hn.2.1,(aN (t:=Tl) (x:=([]:(List Int))) .nil rfl rfl hn.2.2.1),(aN (t:=Tl) (x:=([]:(List Int))) .nil rfl rfl hn.2.2.2.1),trivial⟩) ⟨rfl,rfl,rfl,rfl,trivial⟩ λ_=>?_;refine mq ?_;refine xr ?_;refine xr ?_;refine xr ?_;refine aq ?_;refine aq ?_;refine aq (nt (aj (sr ?_)));refine mq ?_;refine jb (d4 rfl) ?_;refine nt (cn h (λh=>?_) (λh=>?_))
  .refine sr (co rfl (eo [] rfl Hj Bc AN (ku trivial) rfl) trivial ?_);refine mq ?_;refine fr 1 ?_;refine aM rfl rfl (aK rfl wi trivial rfl rfl) ⟨rfl,rfl,trivial⟩ ?_;refine aq (nt (rx ?_));refine bM (gf (a:=.agg (.pair (I 0) (I 0))) (a':=.rep bV (0,0)) (jH (.agg (.pair .int .int)))) ?_;cases h;exact aP () [.rep bV (0,0),_] 0 ⟨⟨_,_,_,_,_,rfl,(.head _),wi,(qe),rfl⟩,rfl,trivial⟩ rfl
  .cases h
 .
  rw [hr] at h s;replace h:=wF h;refine aS (Δ:=[]) (F:=_) (λ_ _ _=>ah rfl _) rfl rfl (cz (N:=[(.tmp 14,.rep am a0),(.tmp 16,.rep Tl [a1]),(.const (.slice none 0 0),.eq (.slice none 0 0)),(.const (.slice none 0 0),.eq (.slice none 0 0))]) (bo [.tmp 14,.tmp 16,.const (.slice none 0 0),.const (.slice none 0 0)] rfl rfl E6 rfl s) λ_ _ _ hn=>⟨hn.1,hn.2.1,(aN (t:=Tl) (x:=([]:(List Int))) .nil rfl rfl hn.2.2.1),(aN (t:=Tl) (x:=([]:(List Int))) .nil rfl rfl hn.2.2.2.1),trivial⟩) ⟨rfl,rfl,rfl,rfl,trivial⟩ λz5=>?_;refine mq ?_;refine xr ?_;refine xr ?_;refine xr ?_;refine aq ?_;refine aq ?_;refine aq (nt (aj (sr ?_)));refine mq ?_;refine jb (d4 rfl) ?_;refine nt (cn h (λh=>?_) (λh=>?_))
  .refine sr (co rfl (eo [] rfl Hj Bc AN (ku trivial) rfl) trivial ?_);refine mq ?_;refine fr 3 ?_;refine aM rfl rfl (aK rfl wi trivial rfl rfl) ⟨rfl,rfl,trivial⟩ ?_;refine aq (nt (rx ?_));refine bM (gf (a:=.agg (.pair (I 0) (I 0))) (a':=.rep bV (0,0)) (jH (.agg (.pair .int .int)))) ?_;cases h;exact aP () [.rep bV (0,0),_] 0 ⟨⟨_,_,_,_,_,rfl,(.head _),wi,(qe),rfl⟩,rfl,trivial⟩ rfl
  .refine sk (sr (cq (nt ?_)));refine aF (Z:=Value) (α:=(List Int)) (λz7 x6=>[(4,Pt b2),(9,.eq z7)]) (λz7 x6=>[.obj b2 67 (.agg (.pair (I 0) (I 0))),.sl z7 3 Ti x6,.inv z5.2 (cj k q4)]) h (λK h=>?_) (λz7 x6 h=>?_)
   .refine sr (mq ?_);refine ol Ba ?_;refine fB rfl ?_;refine nt (ai (gu (SE.nil 3 Ti) ?_));refine aD (λz9 y8=>[(1,I a1),(4,Pt b2),(6,.eq (.pointer (some ⟨z5.1,0,none⟩))),(9,.eq z9),(25,.rep (.slice (.int .u8)) r3.2.1),(26,I (r3.2.1.length:Int)),(27,I y8.2)]) (λz9 y8=>[.obj b2 67 (.agg (.pair (I 0) (I 0))),.obj z5.1 135 (bf q4 z5.2),.sl z9 3 Ti y8.1,.inv z5.2 (cj k q4)]) (ll k a1 r3 q4) k (.slice none 0 0) (([]:(List Int)),0) (λ_=>rfl) h (SE.fin [4,1,0,2] ⟨rfl,rfl,rfl,rfl,rfl,rfl,rfl,trivial⟩ rfl) (λn z9 y8 h=>?_);unfold ll at h;refine sr (jb (bq rfl) ?_);refine nt (aj (ci h (λh=>?_) (λh=>?_)))
    .refine sk (aF (Z:=Value) (α:=(List Int)) (λc e=>[(1,I a1),(4,Pt b2),(6,.eq (.pointer (some ⟨z5.1,0,none⟩))),(9,.eq c),(25,.rep (.slice (.int .u8)) r3.2.1),(26,I (r3.2.1.length:Int)),(27,I y8.2)]) (λc e=>[.obj b2 67 (.agg (.pair (I 0) (I 0))),.obj z5.1 135 (bf q4 z5.2),.sl c 3 Ti e,.inv z5.2 (cj k q4)]) h (λK h=>?_) (λc e h=>?_))
     .refine ai (sr ?_);obtain⟨U,D,h⟩:=aa h;refine jb (aE (t:=(.int .u8)) rfl Ba qw D) ?_;refine ja (an (t:=(.int .u8)) rfl qw rfl) ?_;refine aq (nt (sr ?_));iterate 3 refine mq ?_
      obtain⟨u,O,h⟩:=aa h;refine fr 3 ?_;refine fr 2 ?_;refine aS (Δ:=[_,_]) (F:=_) (λ_ _ _=>ah rfl _) rfl rfl (bo [.tmp 31,.tmp 32,.tmp 33] rfl rfl Q4 rfl (lW k q4 z5.1 z5.2 U a1 u O)) ⟨rfl,rfl,rfl,trivial⟩ λ_=>?_;refine aq (nt (sr ?_));refine mq ?_;refine jb (jg rfl) ?_;refine nt (ci h (λh=>?_) (λh=>?_))
      .refine ab ?_;iterate 2 refine mq ?_
       refine ja (aW (t:=Ti) [(.tmp 38,_)] [u] rfl rfl c9 (.cons rfl .int .nil) rfl rfl) ?_;obtain⟨gw,E,h⟩:=aa h;refine fr 3 ?_;refine cR rfl rfl rfl (bu rfl rfl c9 (ao E)) ⟨rfl,rfl,trivial⟩ λX=>?_;refine aq (aG (bn ?_));exact jz (X,y8.1++[u]) h [3,1,0,2]
      .refine bi (bn ?_);exact jz (z9,y8.1) h [2,0,3,1]
     .refine ab ?_;obtain⟨Q,y,h⟩:=aa h;refine jb (bj rfl y) ?_;refine mq (nl ?_);exact jz (c,(e,Q)) h [0,1,2,3]
    .refine xa ?_;exact jz (z9,y8.1) h [0,2,3]
   .refine aj (sr (mq ?_));refine fr 1 ?_;refine ka (np rfl rfl gG) ?_;refine jb (jL rfl) ?_;refine nt (ci h (λh=>?_) (λh=>?_))
    .refine sr (co rfl (eo [] rfl Hj Bc AN (ku trivial) rfl) trivial ?_);refine fr 1 ?_;refine aM rfl rfl (aK rfl wi trivial rfl rfl) ⟨rfl,rfl,trivial⟩ ?_;refine cq (nt (rx ?_));refine bM (gf (a:=.agg (.pair (I 0) (I 0))) (a':=.rep bV (0,0)) (jH (.agg (.pair .int .int)))) ?_;cases h;exact aP () [.rep bV (0,0),_] 0 ⟨⟨_,_,_,_,_,rfl,(.head _),wi,(qe),rfl⟩,rfl,trivial⟩ rfl
    .refine sk (sr (mq ?_));obtain⟨l,M,h⟩:=aa h;refine ka (j6 (N:=[(.tmp 46,.eq z7)]) (av [.tmp 46] rfl rfl Q7 rfl (oK k x6 l M)) (λ_ _ _ hv hn=>⟨(lend hn.1 hv),trivial⟩) (λ_=>⟨rfl,nz⟩)) ?_;refine mq ?_;obtain⟨j,J,h⟩:=aa h;refine ka (j6 (N:=[(.tmp 48,.eq z7)]) (av [.tmp 48] rfl rfl TS rfl (uN k x6 j J)) (λ_ _ _ hv hn=>⟨(lend hn.1 hv),trivial⟩) (λ_=>⟨rfl,nz⟩)) ?_;refine jb (eo [(0,.tmp 47,_),(1,.tmp 49,_)] rfl Hj Bc AN (ku ⟨rfl,rfl,trivial⟩) rfl) ?_;refine fr 1 ?_;refine aM rfl rfl (aK rfl wi trivial rfl rfl) ⟨rfl,rfl,trivial⟩ ?_;refine cq (nt (aC ?_));refine bM (gf (a:=.agg (.pair (I l) (I j))) (a':=.rep bV (l,j)) (jH (.agg (.pair .int .int)))) ?_;cases h;exact aP () [.rep bV (l,j),_] 0 ⟨⟨_,_,_,_,_,rfl,(.head _),wi,(qe),rfl⟩,rfl,trivial⟩ rfl
def kh(k:Nat)(a1:Int)(a2:Int)(y4:(List (List (List Int)))×Int)(h:(List Int)):Nat->((List Int)×Int)->Option (List Int)
 |0,_=>none
 |n+1,c=>
  if c.2 < (h.length:Int) then((((aH h c.2).bind λe=>
  ((if y4.2 < a1 then(some true) else((fa k a2 e).bind λs=>
  some (!s))):Option (Bool)).bind λl=>
  if l=true then((cf (bA (length c.1+length [e]))).bind λ_=>
  some (c.1++[e])) else(some c.1)):Option ((List Int))).bind λr=>
  (ck (c.2+1)).bind λj=>
  kh k a1 a2 y4 h n (r,j)) else(some c.1)
def kj(k:Nat)(a1:Int)(a2:Int)(y4:(List (List (List Int)))×Int)(x8:(List (List Int))):Nat->((List (List Int))×Int)->Option (List (List Int))
 |0,_=>none
 |n+1,c=>
  if c.2 < (x8.length:Int) then((((aH x8 c.2).bind λj=>
  ((kh k a1 a2 y4 j k (([]:(List Int)),0)):Option ((List Int))).bind λe=>
  (cf (bA (length c.1+length [e]))).bind λ_=>
  some (c.1++[e])):Option ((List (List Int)))).bind λl=>
  (ck (c.2+1)).bind λh=>
  kj k a1 a2 y4 x8 n (l,h)) else(some c.1)
def kl(k:Nat)(a0:ae)(a1:Int)(a2:Int):Nat->((List (List (List Int)))×Int)->Option (List (List (List Int)))
 |0,_=>none
 |n+1,y4=>
  if y4.2 < (a0.2.2.2.2.1.length:Int) then((((aH a0.2.2.2.2.1 y4.2).bind λx8=>
  ((kj k a1 a2 y4 x8 k (([]:(List (List Int))),0)):Option ((List (List Int)))).bind λx9=>
  (cf (bA (length y4.1+length [x9]))).bind λ_=>
  some (y4.1++[x9])):Option ((List (List (List Int))))).bind λx6=>
  (ck (y4.2+1)).bind λc=>
  kl k a0 a1 a2 n (x6,c)) else(some y4.1)
def nP(k:Nat)(a0:ae)(a1:Int)(a2:Int):Option (Option ae):=
 ((kl k a0 a1 a2 k (([]:(List (List (List Int)))),0)):Option ((List (List (List Int))))).bind λx2=>
 (jx k (a0.1,a0.2.1,a0.2.2.1,a0.2.2.2.1,x2,a0.2.2.2.2.2)).bind λc=>
 gI c (some none) (λe=>some (some e))
theorem wy(k:Nat)(a0:ae)(a1:Int)(a2:Int)(r:(Option ae))(h:nP k a0 a1 a2=some r):
 cV Tryz.prog 85 [.rep am a0,I a1,.eq (.int .u8 a2)] [] (λz:Nat×Nat=>(bF [Kq r z.1],Kp r λq=>rp q z.1 z.2 k)):=by
 unfold nP at h
 replace h:=ba h
 refine cV.of 69 Tryz.func85 rfl Tryz.ntmps85 rfl λS w0=>?_
 refine sr ?_
 refine bx λb1=>?_
 refine cq ?_
 refine nt ?_
 refine sr ?_
 refine fl bS ?_
 refine lo eH ?_
 refine mq ?_
 refine ja (sV [.tmp 19] [] [(.int .u8 a2)] [] rfl rfl rfl) ?_
 refine aq ?_
 refine aq ?_
 refine nt ?_
 refine sr ?_
 refine fl bS ?_
 refine aM rfl rfl (aK rfl eH rfl rfl rfl) ⟨rfl,rfl,trivial⟩ ?_
 refine nt ?_
 refine aF (Z:=Value) (α:=(List (List (List Int)))) (λz3 x2=>[(3,Pt b1)]) (λz3 x2=>[.obj b1 25 (.agg (.pair (I a0.1) (.pair (I a0.2.1) (.pair (I a0.2.2.1) (.pair (I a0.2.2.2.1) (.pair (.eq z3) (Rs aJ a0.2.2.2.2.2))))))),.sl z3 36 (.slice Tl) x2]) h (λK h=>?_) (λz3 x2 h=>?_)
 .
  refine sr (mq ?_);refine ol oy ?_;refine fB rfl ?_;refine nt (ai (gu (SE.nil 36 (.slice Tl)) ?_));refine dE 1 rfl ?_;refine gu (gf (a:=.agg (.pair (.rep Ti a0.1) (.pair (.rep Ti a0.2.1) (.pair (.rep Ti a0.2.2.1) (.pair (.rep Ti a0.2.2.2.1) (.pair (.eq (.slice none 0 0)) (Rs aJ a0.2.2.2.2.2))))))) (a':=.agg (.pair (I a0.1) (.pair (I a0.2.1) (.pair (I a0.2.2.1) (.pair (I a0.2.2.2.1) (.pair (.eq (.slice none 0 0)) (Rs aJ a0.2.2.2.2.2))))))) (AE.agg (AE.pair AE.int (AE.pair AE.int (AE.pair AE.int (AE.pair AE.int AE.rfl)))))) ?_;refine aD (λz5 y4=>[(1,I a1),(3,Pt b1),(8,.eq (.func (.func 97) #[(.int .u8 a2)] #[])),(22,.rep (.slice (.slice Tl)) a0.2.2.2.2.1),(23,I (a0.2.2.2.2.1.length:Int)),(24,I y4.2)]) (λz5 y4=>[.obj b1 25 (.agg (.pair (I a0.1) (.pair (I a0.2.1) (.pair (I a0.2.2.1) (.pair (I a0.2.2.2.1) (.pair (.eq z5) (Rs aJ a0.2.2.2.2.2))))))),.sl z5 36 (.slice Tl) y4.1]) (kl k a0 a1 a2) k (.slice none 0 0) (([]:(List (List (List Int)))),0) (λ_=>rfl) h (SE.fin [0,1] ⟨rfl,rfl,rfl,rfl,rfl,rfl,trivial⟩ rfl) (λn z5 y4 h=>?_);unfold kl at h;refine sr (jb (bq rfl) ?_);refine nt (aj (ci h (λh=>?_) (λh=>?_)))
  .refine sk (aF (Z:=Value) (α:=(List (List (List Int)))) (λz7 x6=>[(1,I a1),(3,Pt b1),(8,.eq (.func (.func 97) #[(.int .u8 a2)] #[])),(22,.rep (.slice (.slice Tl)) a0.2.2.2.2.1),(23,I (a0.2.2.2.2.1.length:Int)),(24,I y4.2)]) (λz7 x6=>[.obj b1 25 (.agg (.pair (I a0.1) (.pair (I a0.2.1) (.pair (I a0.2.2.1) (.pair (I a0.2.2.2.1) (.pair (.eq z7) (Rs aJ a0.2.2.2.2.2))))))),.sl z7 36 (.slice Tl) x6]) h (λK h=>?_) (λz7 x6 h=>?_))
   .refine ai (sr (mq ?_));obtain⟨x8,Vq,h⟩:=aa h;refine jb (aE (t:=(.slice Tl)) rfl oy jJ Vq) ?_;refine ja (an (t:=(.slice Tl)) rfl jJ rfl) ?_;refine aq ?_;refine aq (nt (sr ?_));refine cq (nt ?_);refine aF (Z:=Value) (α:=(List (List Int))) (λQ x9=>[(1,I a1),(3,Pt b1),(8,.eq (.func (.func 97) #[(.int .u8 a2)] #[])),(11,.eq Q),(22,.rep (.slice (.slice Tl)) a0.2.2.2.2.1),(23,I (a0.2.2.2.2.1.length:Int)),(24,I y4.2)]) (λQ x9=>[.obj b1 25 (.agg (.pair (I a0.1) (.pair (I a0.2.1) (.pair (I a0.2.2.1) (.pair (I a0.2.2.2.1) (.pair (.eq z5) (Rs aJ a0.2.2.2.2.2))))))),.sl z5 36 (.slice Tl) y4.1,.sl Q 28 Tl x9]) h (λK h=>?_) (λQ x9 h=>?_)
    .refine sr (mq ?_);refine ol pY ?_;refine fB rfl ?_;refine nt (ai (gu (SE.nil 28 Tl) ?_));refine aD (λe c=>[(1,I a1),(3,Pt b1),(8,.eq (.func (.func 97) #[(.int .u8 a2)] #[])),(9,I y4.2),(11,.eq e),(22,.rep (.slice (.slice Tl)) a0.2.2.2.2.1),(23,I (a0.2.2.2.2.1.length:Int)),(24,I y4.2),(29,.rep (.slice Tl) x8),(30,I (x8.length:Int)),(31,I c.2)]) (λe c=>[.obj b1 25 (.agg (.pair (I a0.1) (.pair (I a0.2.1) (.pair (I a0.2.2.1) (.pair (I a0.2.2.2.1) (.pair (.eq z5) (Rs aJ a0.2.2.2.2.2))))))),.sl z5 36 (.slice Tl) y4.1,.sl e 28 Tl c.1]) (kj k a1 a2 y4 x8) k (.slice none 0 0) (([]:(List (List Int))),0) (λ_=>rfl) h (SE.fin [1,2,0] ⟨rfl,rfl,rfl,rfl,rfl,rfl,rfl,rfl,rfl,rfl,rfl,trivial⟩ rfl) (λn e c h=>?_);unfold kj at h;refine sr (jb (bq rfl) ?_);refine nt (aj (ci h (λh=>?_) (λh=>?_)))
     .refine sk (aF (Z:=Value) (α:=(List (List Int))) (λE X=>[(1,I a1),(3,Pt b1),(8,.eq (.func (.func 97) #[(.int .u8 a2)] #[])),(9,I y4.2),(11,.eq E),(22,.rep (.slice (.slice Tl)) a0.2.2.2.2.1),(23,I (a0.2.2.2.2.1.length:Int)),(24,I y4.2),(29,.rep (.slice Tl) x8),(30,I (x8.length:Int)),(31,I c.2)]) (λE X=>[.obj b1 25 (.agg (.pair (I a0.1) (.pair (I a0.2.1) (.pair (I a0.2.2.1) (.pair (I a0.2.2.2.1) (.pair (.eq z5) (Rs aJ a0.2.2.2.2.2))))))),.sl z5 36 (.slice Tl) y4.1,.sl E 28 Tl X]) h (λK h=>?_) (λE X h=>?_))
      .refine ai (sr ?_);obtain⟨u,Ve,h⟩:=aa h;refine jb (aE (t:=Tl) rfl pY fC Ve) ?_;refine ja (an (t:=Tl) rfl fC rfl) ?_;refine aq (nt (sr ?_));refine cq (nt ?_);refine aF (Z:=Value) (α:=(List Int)) (λO M=>[(1,I a1),(3,Pt b1),(8,.eq (.func (.func 97) #[(.int .u8 a2)] #[])),(9,I y4.2),(11,.eq e),(14,.eq O),(22,.rep (.slice (.slice Tl)) a0.2.2.2.2.1),(23,I (a0.2.2.2.2.1.length:Int)),(24,I y4.2),(29,.rep (.slice Tl) x8),(30,I (x8.length:Int)),(31,I c.2)]) (λO M=>[.obj b1 25 (.agg (.pair (I a0.1) (.pair (I a0.2.1) (.pair (I a0.2.2.1) (.pair (I a0.2.2.2.1) (.pair (.eq z5) (Rs aJ a0.2.2.2.2.2))))))),.sl z5 36 (.slice Tl) y4.1,.sl e 28 Tl c.1,.sl O 3 Ti M]) h (λK h=>?_) (λO M h=>?_)
       .refine sr (mq ?_);refine ol gG ?_;refine fB rfl ?_;refine nt (ai (gu (SE.nil 3 Ti) ?_));refine aD (λl j=>[(1,I a1),(3,Pt b1),(8,.eq (.func (.func 97) #[(.int .u8 a2)] #[])),(9,I y4.2),(11,.eq e),(14,.eq l),(22,.rep (.slice (.slice Tl)) a0.2.2.2.2.1),(23,I (a0.2.2.2.2.1.length:Int)),(24,I y4.2),(29,.rep (.slice Tl) x8),(30,I (x8.length:Int)),(31,I c.2),(35,.rep Tl u),(36,I (u.length:Int)),(37,I j.2)]) (λl j=>[.obj b1 25 (.agg (.pair (I a0.1) (.pair (I a0.2.1) (.pair (I a0.2.2.1) (.pair (I a0.2.2.2.1) (.pair (.eq z5) (Rs aJ a0.2.2.2.2.2))))))),.sl z5 36 (.slice Tl) y4.1,.sl e 28 Tl c.1,.sl l 3 Ti j.1]) (kh k a1 a2 y4 u) k (.slice none 0 0) (([]:(List Int)),0) (λ_=>rfl) h (SE.fin [1,2,3,0] ⟨rfl,rfl,rfl,rfl,rfl,rfl,rfl,rfl,rfl,rfl,rfl,rfl,rfl,rfl,rfl,trivial⟩ rfl) (λn l j h=>?_);unfold kh at h;refine sr (jb (bq rfl) ?_);refine nt (aj (ci h (λh=>?_) (λh=>?_)))
        .refine sk (aF (Z:=Value) (α:=(List Int)) (λD U=>[(1,I a1),(3,Pt b1),(8,.eq (.func (.func 97) #[(.int .u8 a2)] #[])),(9,I y4.2),(11,.eq e),(14,.eq D),(22,.rep (.slice (.slice Tl)) a0.2.2.2.2.1),(23,I (a0.2.2.2.2.1.length:Int)),(24,I y4.2),(29,.rep (.slice Tl) x8),(30,I (x8.length:Int)),(31,I c.2),(35,.rep Tl u),(36,I (u.length:Int)),(37,I j.2)]) (λD U=>[.obj b1 25 (.agg (.pair (I a0.1) (.pair (I a0.2.1) (.pair (I a0.2.2.1) (.pair (I a0.2.2.2.1) (.pair (.eq z5) (Rs aJ a0.2.2.2.2.2))))))),.sl z5 36 (.slice Tl) y4.1,.sl e 28 Tl c.1,.sl D 3 Ti U]) h (λK h=>?_) (λD U h=>?_))
         .refine ai (sr ?_);obtain⟨J,Vb,h⟩:=aa h;refine jb (aE (t:=Ti) rfl gG bW Vb) ?_;refine ja (an (t:=Ti) rfl bW rfl) ?_;refine aq (nt ?_);refine aF (Z:=Unit) (α:=Bool) (λmc gw=>[(1,I a1),(3,Pt b1),(8,.eq (.func (.func 97) #[(.int .u8 a2)] #[])),(9,I y4.2),(11,.eq e),(14,.eq l),(16,I J),(22,.rep (.slice (.slice Tl)) a0.2.2.2.2.1),(23,I (a0.2.2.2.2.1.length:Int)),(24,I y4.2),(29,.rep (.slice Tl) x8),(30,I (x8.length:Int)),(31,I c.2),(35,.rep Tl u),(36,I (u.length:Int)),(37,I j.2),(49,.eq (.bool gw))]) (λmc gw=>[.obj b1 25 (.agg (.pair (I a0.1) (.pair (I a0.2.1) (.pair (I a0.2.2.1) (.pair (I a0.2.2.2.1) (.pair (.eq z5) (Rs aJ a0.2.2.2.2.2))))))),.sl z5 36 (.slice Tl) y4.1,.sl e 28 Tl c.1,.sl l 3 Ti j.1]) h (λK h=>?_) (λmc gw h=>?_)
          .refine ab ?_;iterate 2 refine mq ?_
           refine jb (bq rfl) ?_;refine mq ?_;refine bX (s:=44) rfl (λhb=>?_) (λhb=>?_)
           .replace h:=dU (uA hb) h;iterate 4 refine gn ?_
            refine pt (nl ?_);exact jz ((),true) h [0,1,2,3]
           .replace h:=cG (uB hb) h;refine gm ?_;refine gm ?_;obtain⟨qt,Vj,h⟩:=aa h;refine gb (uu (fs:=[(.int .u8 a2)]) (cs:=[]) (ags:=[I J]) [.tmp 46] rfl rfl Iw rfl (g9 k a2 J qt Vj)) ?_;refine ga (eI rfl) ?_;refine pf (nl ?_);exact jz ((), !qt) h [0,1,2,3]
          .refine cv h (λh=>?_) (λh=>?_)
           .refine ab ?_;iterate 2 refine mq ?_
            refine ja (aW (t:=Ti) [(.tmp 51,_)] [J] rfl rfl c9 (.cons rfl .int .nil) rfl rfl) ?_;obtain⟨Vs,Vh,h⟩:=aa h;refine fr 3 ?_;refine cR rfl rfl rfl (bu rfl rfl c9 (ao Vh)) ⟨rfl,rfl,trivial⟩ λVp=>?_;refine aq (aG (bn ?_));exact jz (Vp,j.1++[J]) h [1,2,3,0]
           .refine bi (bn ?_);exact jz (l,j.1) h [0,1,2,3]
         .refine ab ?_;obtain⟨Vm,Va,h⟩:=aa h;refine jb (bj rfl Va) ?_;refine mq (nl ?_);exact jz (D,(U,Vm)) h [0,1,2,3]
        .refine xa ?_;exact jz (l,j.1) h [0,1,2,3]
       .refine ab ?_;iterate 2 refine mq ?_
        refine fr 3 ?_;refine ee (ie [14,56] ⟨rfl,rfl,trivial⟩) ?_;refine ja (aW (t:=Tl) [(.tmp 56,_)] [M] rfl rfl nm (.cons rfl .rep .nil) rfl rfl) ?_;obtain⟨Vr,Vg,h⟩:=aa h;refine fr 2 ?_;refine cR rfl rfl rfl (bu rfl rfl nm (ao Vg)) ⟨rfl,rfl,trivial⟩ λVo=>?_;refine aq (aG (bn ?_));exact jz (Vo,c.1++[M]) h [1,2,0]
      .refine ab ?_;obtain⟨Vl,U8,h⟩:=aa h;refine jb (bj rfl U8) ?_;refine mq (nl ?_);exact jz (E,(X,Vl)) h [0,1,2]
     .refine xa ?_;exact jz (e,c.1) h [0,1,2]
    .refine ab (fl bS ?_);refine lo eH ?_;refine mq ?_;refine fr 2 ?_;refine ee (ie [11,62] ⟨rfl,rfl,trivial⟩) ?_;refine ja (aW (t:=(.slice Tl)) [(.tmp 62,_)] [x9] rfl rfl uO (.cons rfl .rep .nil) rfl rfl) ?_;obtain⟨u32,Vf,h⟩:=aa h;refine fr 1 ?_;refine cR rfl rfl rfl (bu rfl rfl uO (ao Vf)) ⟨rfl,rfl,trivial⟩ λVn=>?_;refine fl bS ?_;refine mg λo34=>?_;refine fr 1 ?_;refine aM rfl rfl (aK rfl eH o34 rfl rfl) ⟨rfl,rfl,trivial⟩ ?_;refine aG (bn ?_);exact jz (Vn,y4.1++[x9]) h [0,1]
   .refine ab ?_;obtain⟨Vk,zz,h⟩:=aa h;refine jb (bj rfl zz) ?_;refine mq (nl ?_);exact jz (z7,(x6,Vk)) h [0,1]
  .refine xa ?_;exact jz (z5,y4.1) h [0,1]
 .
  refine sr (fr 1 ?_);refine ee (ic (off:=4) [] trivial rfl rfl) ?_;refine lo dk ?_;obtain⟨mw,Vi,h⟩:=aa h;have y:=og k (a0.1,a0.2.1,a0.2.2.1,a0.2.2.2.1,x2,a0.2.2.2.2.2) mw Vi;rcases hr:mw with _ |Vt
  .rw [hr] at h y;replace h:=wG h;refine aS (Δ:=[]) (F:=_) (λ_ _ _=>ah rfl _) rfl rfl (cz (N:=[(.tmp 67,.agg (.pair (I a0.1) (.pair (I a0.2.1) (.pair (I a0.2.2.1) (.pair (I a0.2.2.2.1) (.pair (.rep (.slice (.slice Tl)) x2) (Rs aJ a0.2.2.2.2.2)))))))]) (av [.tmp 67] rfl rfl Lq rfl y) λ_ _ _ hn=>⟨(aN (t:=am) (x:=(a0.1,a0.2.1,a0.2.2.1,a0.2.2.2.1,x2,a0.2.2.2.2.2)) (.agg (.pair .int (.pair .int (.pair .int (.pair .int (.pair .rep .rep)))))) trivial rfl hn.1),trivial⟩) ⟨rfl,trivial⟩ λ_=>?_;refine aq (nt (aC ?_));cases h;exact aP (0,0) [.eq (.pointer none)] 0 ⟨rfl,trivial⟩ rfl
  .rw [hr] at h y;replace h:=wF h;refine aS (Δ:=[]) (F:=_) (λ_ _ _=>ah rfl _) rfl rfl (cz (N:=[(.tmp 67,.agg (.pair (I a0.1) (.pair (I a0.2.1) (.pair (I a0.2.2.1) (.pair (I a0.2.2.2.1) (.pair (.rep (.slice (.slice Tl)) x2) (Rs aJ a0.2.2.2.2.2)))))))]) (av [.tmp 67] rfl rfl Lq rfl y) λ_ _ _ hn=>⟨(aN (t:=am) (x:=(a0.1,a0.2.1,a0.2.2.1,a0.2.2.2.1,x2,a0.2.2.2.2.2)) (.agg (.pair .int (.pair .int (.pair .int (.pair .int (.pair .rep .rep)))))) trivial rfl hn.1),trivial⟩) ⟨rfl,trivial⟩ λY=>?_;refine aq (nt (aC ?_));cases h;exact aP (Y.1,Y.2) [.eq (.pointer (some ⟨Y.1,0,none⟩))] 2 ⟨rfl,trivial⟩ rfl
def ff(k:Nat)(a0:ae)(r1:(List (List Int)))(y5:Int):Nat->Int->Option (Except Bool Unit)
 |0,_=>none
 |n+1,c=>
  if c < a0.1 then((((aH r1 y5).bind λs=>
  (aH s c).bind λr=>
  if r < 0 then((ck (y5+1)).bind λl=>
  (aH r1 l).bind λj=>
  (aH j c).bind λh=>
  some (decide (h=0))) else(some false)):Option (Bool)).bind λu=>
  if u=true then(some (.error true)) else((ck (c+1)).bind λe=>
  ff k a0 r1 y5 n e)) else(some (.ok ()))
def fg(k:Nat)(a0:ae)(r1:(List (List Int))):Nat->Int->Option (Except Bool Unit)
 |0,_=>none
 |n+1,y5=>
  if y5 < (a0.2.2.2.2.1.length:Int) then(bE (α:=Unit) ((ck (y5+1)).bind λx9=>
  (aH r1 x9).bind λh=>
  (aH r1 y5).bind λc=>
  (cf (yd h/\yd c)).bind λ_=>
  if h=c then(some (.ok ())) else(ff k a0 r1 y5 k 0)) (λe=>some (.error e)) λ_=>
  (ck (y5+1)).bind λj=>
  fg k a0 r1 n j) else(some (.ok ()))
def jy(k:Nat)(a0:ae)(a1:Int)(a2:Int):Option Bool:=
 (mt k a0 a1).bind λr1=>
 bE (α:=Unit) (fg k a0 r1 k a2) (some) λ_=>
 some false
theorem o0(k:Nat)(a0:ae)(c z_a0:Nat)(a1:Int)(a2:Int)(r:Bool)(h:jy k a0 a1 a2=some r):
 cC (ec Tryz.prog) 87 [Pt c,.eq (.int .u8 a1),I a2] [.obj c 135 (bf a0 z_a0),.inv z_a0 (cj k a0)] (λ_:Unit=>(bF [.eq (.bool r)],[.obj c 135 (bf a0 z_a0),.inv z_a0 (cj k a0)])):=by
 unfold jy at h
 replace h:=ba h
 refine cC.of 56 Tryz.func87 rfl Tryz.ntmps87 rfl λS w0=>?_
 refine sr ?_
 refine cq ?_
 refine nt ?_
 refine sr ?_
 iterate 2 refine mq ?_
 obtain⟨r1,U8,h⟩:=aa h
 have Va:=pR k a0 c z_a0 a1 r1 U8
 refine fr 1 ?_
 refine fr 1 ?_
 refine aS (Δ:=[_,_]) (F:=_) (λ_ _ _=>ah rfl _) rfl rfl (bo [.tmp 10,.tmp 11] rfl rfl E8 rfl Va) ⟨rfl,rfl,trivial⟩ λ_=>?_
 refine aZ rfl rfl rfl (bp rfl F3 IM) trivial λb2=>?_
 refine aM rfl rfl (aK rfl GM rfl rfl rfl) ⟨rfl,rfl,trivial⟩ ?_
 refine ee (jZ (t:=(.arr 7 Tr)) (x:=r1) [7] .rep ⟨rfl,trivial⟩) ?_
 refine nt ?_
 refine cO (Z:=Unit) (α:=Unit) (λz4 x3=>[]) (λz4 x3=>[.obj c 135 (bf a0 z_a0),.inv z_a0 (cj k a0)]) (λe=>e=r) h (λe h=>Option.some.inj h) (λK hR h=>?_) (λz4 x3 h=>?_)
 .
  refine sr (mq ?_);refine aq (nt (ai ?_));refine aD (λz6 y5=>[(0,Pt c),(7,.at (.arr 7 Tr) r1),(8,I y5)]) (λz6 y5=>[.obj c 135 (bf a0 z_a0),.inv z_a0 (cj k a0)]) (fg k a0 r1) k () a2 (λ_=>rfl) h (SE.fin [0,1] ⟨rfl,rfl,rfl,trivial⟩ rfl) (λn z6 y5 h=>?_);unfold fg at h;refine aj (sr ?_);iterate 2 refine mq ?_
  refine ja (cT rfl) ?_;refine fl iq ?_;refine fl bS ?_;refine lo eH ?_;refine ol oy ?_;refine jb (bq rfl) ?_;refine nt (ci h (λh=>?_) (λh=>?_))
  .refine sk (cO (Z:=Unit) (α:=Unit) (λz8 x7=>[(0,Pt c),(7,.at (.arr 7 Tr) r1),(8,I y5)]) (λz8 x7=>[.obj c 135 (bf a0 z_a0),.inv z_a0 (cj k a0)]) (λe=>e=r) h (λe h=>hR e h) (λK hR h=>?_) (λz8 x7 h=>?_))
   .refine ai (aj (aj (bN ?_)));refine dm ?_;obtain⟨x9,zz,h⟩:=aa h;refine db (bj rfl zz) ?_;obtain⟨Vi,gw,h⟩:=aa h;refine db (cD (t:=Tr) rfl Jp jI gw) ?_;refine da (an (t:=Tr) rfl jI rfl) ?_;refine dm ?_;obtain⟨Vh,Y,h⟩:=aa h;refine db (cD (t:=Tr) rfl Jp jI Y) ?_;refine da (an (t:=Tr) rfl jI rfl) ?_;refine df cS ?_;obtain⟨Vj,l,h⟩:=aa h;refine jb (Hv rfl (ao l).1 (ao l).2) ?_;refine nt (ci h (λh=>?_) (λh=>?_))
    .refine fq (bL (c6 (ax ?_)));exact jz ((),()) h [0,1]
    .refine sk (sr (mq ?_));refine ja (cT rfl) ?_;refine fl iq ?_;refine fl fy ?_;refine lo bW ?_;refine fB rfl ?_;refine nt (ai (aD (λD j=>[(0,Pt c),(7,.at (.arr 7 Tr) r1),(8,I y5),(36,I a0.1),(37,I j)]) (λD j=>[.obj c 135 (bf a0 z_a0),.inv z_a0 (cj k a0)]) (ff k a0 r1 y5) k () 0 (λ_=>rfl) h (SE.fin [0,1] ⟨rfl,rfl,rfl,rfl,rfl,trivial⟩ rfl) (λn D j h=>?_)));unfold ff at h;refine sr (jb (bq rfl) ?_);refine nt (aj (ci h (λh=>?_) (λh=>?_)))
     .refine sk (aj (ai (sr (mq ?_))));refine aq (nt ?_);refine aF (Z:=Unit) (α:=Bool) (λy u=>[(0,Pt c),(7,.at (.arr 7 Tr) r1),(8,I y5),(36,I a0.1),(37,I j),(54,.eq (.bool u))]) (λy u=>[.obj c 135 (bf a0 z_a0),.inv z_a0 (cj k a0)]) h (λK h=>?_) (λy u h=>?_)
      .refine ab ?_;iterate 2 refine mq ?_
       obtain⟨Vg,X,h⟩:=aa h;refine jb (cD (t:=Tr) rfl Jp jI X) ?_;obtain⟨Vf,U,h⟩:=aa h;refine jb (cD (t:=Ti) rfl CV bW U) ?_;refine ja (an (t:=Ti) rfl bW rfl) ?_;refine jb (bq rfl) ?_;refine mq ?_;refine bX (s:=46) rfl (λhb=>?_) (λhb=>?_)
       .replace h:=dU (uA hb) h;refine gm ?_;obtain⟨Ve,Q,h⟩:=aa h;refine gb (bj rfl Q) ?_;refine gm ?_;obtain⟨Vb,O,h⟩:=aa h;refine gb (cD (t:=Tr) rfl Jp jI O) ?_;obtain⟨qt,M,h⟩:=aa h;refine gb (cD (t:=Ti) rfl CV bW M) ?_;refine ga (an (t:=Ti) rfl bW rfl) ?_;refine gb (jL rfl) ?_;refine pt (nl ?_);exact jz ((),decide (qt=0)) h [0,1]
       .replace h:=cG (uB hb) h;iterate 7 refine gn ?_
        refine pf (nl ?_);exact jz ((),false) h [0,1]
      .refine cv h (λh=>?_) (λh=>?_)
       .refine sr (cq (nt (aC (br (aX (br (aX (aY ?_))))))));obtain rfl:=hR _ h;exact aP () [_] 2 ⟨rfl,trivial⟩ rfl
       .refine bi (aI (tn (ab ?_)));obtain⟨mw,J,h⟩:=aa h;refine jb (bj rfl J) ?_;refine mq (nl ?_);exact jz ((),mw) h [0,1]
     .refine fq (bL (bL (c6 (bn ?_))));exact jz ((),()) h [0,1]
   .refine ab (mq ?_);obtain⟨mc,E,h⟩:=aa h;refine jb (bj rfl E) ?_;refine aq (nl ?_);exact jz ((),mc) h [0,1]
  .refine xa ?_;exact jz ((),()) h [0,1]
 .
  refine sr (cq (nt (aC ?_)));cases h;exact aP () [_] 2 ⟨rfl,trivial⟩ rfl
def nR(k:Nat)(a0:Int)(a1:ae)(a2:Int):Option Bool:=
 (jy k a1 a0 a2).bind λr1=>
 some r1
theorem uh(k:Nat)(a0:Int)(a1:ae)(c z_a1 j:Nat)(a2:Int)(e:Nat)(r:Bool)(h:nR k a0 a1 a2=some r):
 cC (ec Tryz.prog) 86 [.eq (.int .u8 a0),Pt j,Pt e] [.obj c 135 (bf a1 z_a1),.inv z_a1 (cj k a1),.obj j 77 (Pt c),.obj e 3 (I a2)] (λ_:Unit=>(bF [.eq (.bool r)],[.obj c 135 (bf a1 z_a1),.inv z_a1 (cj k a1),.obj j 77 (Pt c),.obj e 3 (I a2)])):=by
 unfold nR at h
 replace h:=ba h
 refine cC.of 9 Tryz.func86 rfl Tryz.ntmps86 rfl λS w0=>?_
 refine sr ?_
 refine cq ?_
 refine nt ?_
 refine sr ?_
 refine fr 2 ?_
 refine lo JM ?_
 refine mq ?_
 refine fr 3 ?_
 refine lo bW ?_
 obtain⟨r1,l,h⟩:=aa h
 have n:=o0 k a1 c z_a1 a0 a2 r1 l
 refine fr 3 ?_
 refine fr 3 ?_
 refine aS (Δ:=[_,_]) (F:=_) (λ_ _ _=>ah rfl _) rfl rfl (bo [.tmp 5,.tmp 6,.tmp 7] rfl rfl TP rfl n) ⟨rfl,rfl,rfl,trivial⟩ λ_=>?_
 refine aq ?_
 refine nt ?_
 refine aC ?_
 refine bM (SE.fin (Γ':=[(4,_)]) [0,1,3,2] ⟨rfl,trivial⟩ rfl) ?_
 cases h
 exact aP () [_] 4 ⟨rfl,trivial⟩ rfl
def eT(k:Nat)(a0:(List Int))(a1_0:ae)(a1_1:Int):Nat->Int->Option (Except Int Unit)
 |0,_=>none
 |n+1,y3=>
  if y3 < (a0.length:Int) then((aH a0 y3).bind λx5=>
  (nR k x5 a1_0 a1_1).bind λr6=>
  if r6=true then(some (.error y3)) else((ck (y3+1)).bind λx7=>
  eT k a0 a1_0 a1_1 n x7)) else(some (.ok ()))
def jq(k:Nat)(a0:(List Int))(a1_0:ae)(a1_1:Int):Option Int:=
 bE (α:=Unit) (eT k a0 a1_0 a1_1 k 0) (some) λ_=>
 some (-1:Int)
theorem oM(k:Nat)(a0:(List Int))(a1_0:ae)(b_a1_0 z_a1_0 c_a1_0:Nat)(a1_1:Int)(c_a1_1:Nat)(r:Int)(h:jq k a0 a1_0 a1_1=some r):
 cC (ec Tryz.prog) 108 [.rep (.slice (.int .u8)) a0,.eq (.func (.func 86) #[] #[(Pv c_a1_0),(Pv c_a1_1)])] [.obj b_a1_0 135 (bf a1_0 z_a1_0),.inv z_a1_0 (cj k a1_0),.obj c_a1_0 77 (Pt b_a1_0),.obj c_a1_1 3 (I a1_1)] (λ_:Unit=>(bF [I r],[.obj b_a1_0 135 (bf a1_0 z_a1_0),.inv z_a1_0 (cj k a1_0),.obj c_a1_0 77 (Pt b_a1_0),.obj c_a1_1 3 (I a1_1)])):=by
 unfold jq at h
 replace h:=ba h
 refine cC.of 19 Tryz.func108 rfl Tryz.ntmps108 rfl λS w0=>?_
 refine sr ?_
 refine cq ?_
 refine nt ?_
 refine cO (Z:=Unit) (α:=Unit) (λz2 x1=>[]) (λz2 x1=>[.obj b_a1_0 135 (bf a1_0 z_a1_0),.inv z_a1_0 (cj k a1_0),.obj c_a1_0 77 (Pt b_a1_0),.obj c_a1_1 3 (I a1_1)]) (λe=>e=r) h (λe h=>Option.some.inj h) (λK hR h=>?_) (λz2 x1 h=>?_)
 .
  refine sr (mq ?_);refine ol Ba ?_;refine fB rfl ?_;refine nt (ai (aD (λz4 y3=>[(0,.rep (.slice (.int .u8)) a0),(1,.eq (.func (.func 86) #[] #[(Pv c_a1_0),(Pv c_a1_1)])),(7,I (a0.length:Int)),(8,I y3)]) (λz4 y3=>[.obj c_a1_0 77 (Pt b_a1_0),.obj b_a1_0 135 (bf a1_0 z_a1_0),.obj c_a1_1 3 (I a1_1),.inv z_a1_0 (cj k a1_0)]) (eT k a0 a1_0 a1_1) k () 0 (λ_=>rfl) h (SE.fin [2,0,3,1] ⟨rfl,rfl,rfl,rfl,trivial⟩ rfl) (λn z4 y3 h=>?_)));unfold eT at h;refine sr (jb (bq rfl) ?_);refine nt (aj (ci h (λh=>?_) (λh=>?_)))
  .refine sk (aj (ai (sr (mq ?_))));refine aq (nt (sr ?_));iterate 3 refine mq ?_
   obtain⟨x5,j,h⟩:=aa h;refine jb (aE (t:=(.int .u8)) rfl Ba qw j) ?_;refine ja (an (t:=(.int .u8)) rfl qw rfl) ?_;obtain⟨r6,l,h⟩:=aa h;refine fr 2 ?_;refine fr 1 ?_;refine fr 3 ?_;refine fr 3 ?_;refine aS (Δ:=[_,_,_,_]) (F:=_) (λ_ _ _=>ah rfl _) rfl rfl (rP (fs:=[]) (cs:=[(Pv c_a1_0),(Pv c_a1_1)]) (ags:=[.eq (.int .u8 x5)]) [.tmp 15] rfl rfl TR rfl (uh k x5 a1_0 b_a1_0 z_a1_0 c_a1_0 a1_1 c_a1_1 r6 l)) ⟨rfl,rfl,trivial⟩ λ_=>?_;refine nt (cv h (λh=>?_) (λh=>?_))
   .refine sr (mq ?_);refine aq (nt (aC (br (aX (aY ?_)))));obtain rfl:=hR _ h;exact aP () [_] 4 ⟨rfl,trivial⟩ rfl
   .refine bi (aI (tn (ab ?_)));obtain⟨x7,c,h⟩:=aa h;refine jb (bj rfl c) ?_;refine mq (nl ?_);exact jz ((),x7) h [2,0,3,1]
  .refine xa ?_;exact jz ((),()) h [1,3,0,2]
 .
  refine sr (cq (nt (aC ?_)));cases h;exact aP () [_] 4 ⟨rfl,trivial⟩ rfl
def eU(k:Nat)(a0:(List Int))(a1_0:ae)(a1_1:Int):Option Bool:=
 (jq k a0 a1_0 a1_1).bind λr1=>
 some (decide (0≤r1))
theorem nk(k:Nat)(a0:(List Int))(a1_0:ae)(b_a1_0 z_a1_0 c_a1_0:Nat)(a1_1:Int)(c_a1_1:Nat)(r:Bool)(h:eU k a0 a1_0 a1_1=some r):
 cC (ec Tryz.prog) 88 [.rep (.slice (.int .u8)) a0,.eq (.func (.func 86) #[] #[(Pv c_a1_0),(Pv c_a1_1)])] [.obj b_a1_0 135 (bf a1_0 z_a1_0),.inv z_a1_0 (cj k a1_0),.obj c_a1_0 77 (Pt b_a1_0),.obj c_a1_1 3 (I a1_1)] (λ_:Unit=>(bF [.eq (.bool r)],[.obj b_a1_0 135 (bf a1_0 z_a1_0),.inv z_a1_0 (cj k a1_0),.obj c_a1_0 77 (Pt b_a1_0),.obj c_a1_1 3 (I a1_1)])):=by
 unfold eU at h
 replace h:=ba h
 refine cC.of 9 Tryz.func88 rfl Tryz.ntmps88 rfl λS w0=>?_
 refine sr ?_
 refine cq ?_
 refine nt ?_
 refine sr ?_
 iterate 2 refine mq ?_
 obtain⟨r1,c,h⟩:=aa h
 have e:=oM k a0 a1_0 b_a1_0 z_a1_0 c_a1_0 a1_1 c_a1_1 r1 c
 refine fr 3 ?_
 refine fr 3 ?_
 refine fr 3 ?_
 refine fr 3 ?_
 refine aS (Δ:=[_,_,_,_]) (F:=_) (λ_ _ _=>ah rfl _) rfl rfl (bo [.tmp 5,.tmp 6] rfl rfl Rw rfl e) ⟨rfl,rfl,trivial⟩ λ_=>?_
 refine jb (jg rfl) ?_
 refine aq ?_
 refine nt ?_
 refine aC ?_
 cases h
 exact aP () [_] 4 ⟨rfl,trivial⟩ rfl
def qN(k:Nat)(a0:ae)(a1:Int):Option ((List Int)×Int):=
 (nv k a0 ([]:(List Int)) [a1] ([]:(List Int))).bind λr3=>
 gI r3.1 (if¬(r3.2.2=0) then(some (([]:(List Int)),r3.2.2)) else(none)) (λq4=>if¬(r3.2.2=0) then(some (([]:(List Int)),r3.2.2)) else((mL k (wT (λ(c:(List Int)) (e:Int)=>
  (nP k a0 a1 e).bind λr=>
  gI r (none) (λs=>(eU k r3.2.1 s a1).bind λn=>
  if¬(n=true) then((cf (bA (length c+length [e]))).bind λ_=>
  some (c++[e],true)) else(some (c,true))))) a0.1 (([]:(List Int)),false)).bind λh=>
 if h.2=true then(none) else((qK k h.1).bind λl=>
 (jw k l).bind λj=>
 some (j,0))))
theorem wA(k:Nat)(a0:ae)(a1:Int)(r:(List Int)×Int)(h:qN k a0 a1=some r):
 cC (ec Tryz.prog) 45 [.rep am a0,I a1] [] (λ_:Unit=>(bF [.rep Tl r.1,I r.2],[])):=by
 unfold qN at h
 replace h:=ba h
 refine vU 44 Tryz.func45 rfl Tryz.ntmps45 rfl λS w0=>?_
 refine sr ?_
 refine bx λb1=>?_
 refine bx λb2=>?_
 refine cq ?_
 refine cq ?_
 refine nt ?_
 refine sr ?_
 refine fr 1 ?_
 refine lo dk ?_
 refine fr 1 ?_
 refine lo bW ?_
 refine ja (aW (t:=Ti) [(.tmp 15,_)] [a1] rfl rfl c9 (.cons rfl .int .nil) rfl rfl) ?_
 obtain⟨r3,Vb,h⟩:=aa h
 have y:=nO k a0 ([]:(List Int)) [a1] ([]:(List Int)) r3 Vb
 rcases hr:r3.1 with _ |q4
 .
  rw [hr] at h y;replace h:=wG h;refine aS (Δ:=[]) (F:=_) (λ_ _ _=>ah rfl _) rfl rfl (cz (N:=[(.tmp 14,.rep am a0),(.const (.slice none 0 0),.eq (.slice none 0 0)),(.tmp 16,.rep Tl [a1]),(.const (.slice none 0 0),.eq (.slice none 0 0))]) (bo [.tmp 14,.const (.slice none 0 0),.tmp 16,.const (.slice none 0 0)] rfl rfl E6 rfl y) λ_ _ _ hn=>⟨hn.1,(aN (t:=Tl) (x:=([]:(List Int))) .nil rfl rfl hn.2.1),hn.2.2.1,(aN (t:=Tl) (x:=([]:(List Int))) .nil rfl rfl hn.2.2.2.1),trivial⟩) ⟨rfl,rfl,rfl,rfl,trivial⟩ λ_=>?_;refine mq ?_;refine xr ?_;refine xr ?_;refine xr ?_;refine aZ rfl rfl rfl (bp rfl Jr LX) trivial λb5=>?_;refine aq ?_;refine aM rfl rfl (aK rfl xZ rfl rfl rfl) ⟨rfl,rfl,trivial⟩ ?_;refine aq (nt (aj (sr ?_)));refine mq ?_;refine jb (d4 rfl) ?_;refine nt (cn h (λh=>?_) (λh=>?_))
  .refine sr (mq ?_);refine cq ?_;refine aq (nt (rx ?_));refine bM (ew (t:=Tl) (x:=([]:(List Int))) 4 rfl .nil rfl rfl) ?_;refine AX ?_;cases h;exact rb
  .cases h
 .
  rw [hr] at h y;replace h:=wF h;refine aS (Δ:=[]) (F:=_) (λ_ _ _=>ah rfl _) rfl rfl (cz (N:=[(.tmp 14,.rep am a0),(.const (.slice none 0 0),.eq (.slice none 0 0)),(.tmp 16,.rep Tl [a1]),(.const (.slice none 0 0),.eq (.slice none 0 0))]) (bo [.tmp 14,.const (.slice none 0 0),.tmp 16,.const (.slice none 0 0)] rfl rfl E6 rfl y) λ_ _ _ hn=>⟨hn.1,(aN (t:=Tl) (x:=([]:(List Int))) .nil rfl rfl hn.2.1),hn.2.2.1,(aN (t:=Tl) (x:=([]:(List Int))) .nil rfl rfl hn.2.2.2.1),trivial⟩) ⟨rfl,rfl,rfl,rfl,trivial⟩ λz6=>?_;refine mq ?_;refine xr ?_;refine xr ?_;refine xr ?_;refine aZ rfl rfl rfl (bp rfl Jr LX) trivial λb7=>?_;refine aq ?_;refine aM rfl rfl (aK rfl xZ rfl rfl rfl) ⟨rfl,rfl,trivial⟩ ?_;refine aq (nt (aj (sr ?_)));refine mq ?_;refine jb (d4 rfl) ?_;refine nt (cn h (λh=>?_) (λh=>?_))
  .refine sr (mq ?_);refine cq ?_;refine aq (nt (rx ?_));refine bM (ew (t:=Tl) (x:=([]:(List Int))) 4 rfl .nil rfl rfl) ?_;refine AX ?_;cases h;exact rb
  .refine sk (sr (aZ rfl rfl rfl (bp rfl Jr LX) trivial λb8=>?_));refine nt (aj (sr (fl fy ?_)));refine fr 5 ?_;refine lo bW ?_;refine aZ rfl rfl rfl (av [.tmp 25] rfl rfl Q1 rfl (rX a0.1)) ⟨rfl,trivial⟩ λb9=>?_;refine nt (ai (gu (SE.nil 78 (.int .u8)) ?_));refine dE 7 rfl ?_;refine dE 7 rfl ?_;refine dE 7 rfl ?_;refine dE 7 rfl ?_;refine dE 4 rfl ?_;refine dE 7 rfl ?_;refine dE 7 rfl ?_;refine dE 7 rfl ?_;obtain⟨u,qt,h⟩:=aa h;refine sF (Δ:=[.obj b9 3 (I a0.1),.obj b1 25 (.rep am a0),.obj b8 92 (.eq (.slice none 0 0)),.sl (.slice none 0 0) 78 (.int .u8) ([]:(List Int)),.obj b7 92 (.rep (.slice (.int .u8)) r3.2.1),.obj z6.1 135 (bf q4 z6.2),.inv z6.2 (cj k q4),.obj b2 3 (I a1)]) (F:=[]) (X:=Value) (J:=λ_=>PY u.2) (E:=λc=>[.obj b9 3 (I a0.1),.obj b1 25 (.rep am a0),.obj b8 92 (.eq c),.sl c 78 (.int .u8) u.1,.obj b7 92 (.rep (.slice (.int .u8)) r3.2.1),.obj z6.1 135 (bf q4 z6.2),.inv z6.2 (cj k q4),.obj b2 3 (I a1)]) (r0:=λ_=>.tup .any) rfl rfl Nr (λrec hp ha hb hs hpe hN hv l=>?_) (λdl c=>uK (λhj=>?_) (λhj=>?_))
   .rcases rec with⟨st0,pe0,fn0,tm0,ps0,as0,bd0,df0⟩;dsimp only at hp ha hb hs hpe hN hv;subst hp hs hpe;have vN:AS tm0 [(2,Pt b1),(3,Pt b2),(7,Pt b7),(9,Pt b8)]:=⟨congrArg A.eq (hv 2 _ rfl).symm,congrArg A.eq (hv 3 _ rfl).symm,congrArg A.eq (hv 7 _ rfl).symm,congrArg A.eq (hv 9 _ rfl).symm,trivial⟩;refine cC.pick (M:=(ec Tryz.prog)) [1,0,2,3,4,5,6,7,8] [1,0,2,3,4,5,6,7,8] (o7 (λ(c:Value) (q:(List Int)×Bool)=>[.raw l (.loop (kQ ⟨.ready,none,fn0,tm0, #[27],as0,bd0,df0⟩ (PY q.2))),.obj b1 25 (.rep am a0),.obj b8 92 (.eq c),.sl c 78 (.int .u8) q.1,.obj b7 92 (.rep (.slice (.int .u8)) r3.2.1),.obj z6.1 135 (bf q4 z6.2),.inv z6.2 (cj k q4),.obj b2 3 (I a1)]) l (wT (λ(n:(List Int)) (j:Int)=>
    (nP k a0 a1 j).bind λs=>
    gI s (none) (λO=>(eU k r3.2.1 O a1).bind λD=>
    if¬(D=true) then((cf (bA (length n+length [j]))).bind λ_=>
    some (n++[j],true)) else(some (n,true))))) k a0.1 b9 (λc q p r' h=>?_) (.slice none 0 0) (([]:(List Int)),false) u qt) rfl (λ_=>rfl) (λ_=>rfl)
    obtain⟨rq,hq,h2,rfl⟩:=uL h;obtain⟨n,b5⟩:=q;obtain rfl:b5=false:=hq;replace h:=ba h2;obtain⟨j,hpv⟩:∃x,x=p:=⟨_,rfl⟩;subst hpv;refine YT.pick (R':=(λc:Value=>(.eq (.bool rq.2),[.raw l (.loop (kQ ⟨.ready,none,fn0,tm0, #[27],as0,bd0,df0⟩ (PY (!rq.2)))),.obj b1 25 (.rep am a0),.obj b8 92 (.eq c),.sl c 78 (.int .u8) rq.1,.obj b7 92 (.rep (.slice (.int .u8)) r3.2.1),.obj z6.1 135 (bf q4 z6.2),.inv z6.2 (cj k q4),.obj b2 3 (I a1)]))) [0,1,2,3,4,5,6,7] [0,1,2,3,4,5,6,7] (IN ha hb (N:=44) (Γ:=[(2,Pt b1),(3,Pt b2),(7,Pt b7),(9,Pt b8)]) rfl hN (by decide) vN (λS w=>?_)) rfl (λ_=>rfl) (λ_=>rfl);refine ab (aq (nl ?_));refine AZ rfl rfl ?_;refine ai (sr (fr 1 ?_));refine lo dk ?_;refine fr 7 ?_;refine lo bW ?_;refine mq ?_;obtain⟨s,mw,h⟩:=aa h;have e:=wy k a0 a1 j s mw;rcases hr:s with _ |O
    .rw [hr] at h e;replace h:=wG h;refine aS (Δ:=[]) (F:=_) (λ_ _ _=>ah rfl _) rfl rfl (av [.tmp 28,.tmp 29,.tmp 30] rfl rfl Q0 rfl e) ⟨rfl,rfl,rfl,trivial⟩ λ_=>?_;cases h
    .rw [hr] at h e;replace h:=wF h;refine aS (Δ:=[]) (F:=_) (λ_ _ _=>ah rfl _) rfl rfl (av [.tmp 28,.tmp 29,.tmp 30] rfl rfl Q0 rfl e) ⟨rfl,rfl,rfl,trivial⟩ λQ=>?_;refine aZ rfl rfl rfl (bp rfl SL Uu) trivial λzz=>?_;refine aM rfl rfl (aK rfl JM rfl rfl rfl) ⟨rfl,rfl,trivial⟩ ?_;refine nt (sr (jb (sV [] [.tmp 11,.tmp 3] [] [(Pv zz),(Pv b2)] rfl rfl rfl) ?_));refine aq (nt (sr ?_));refine fr 8 ?_;refine lo xZ ?_;refine mq ?_;obtain⟨D,mc,h⟩:=aa h;refine fr 4 ?_;refine fr 2 ?_;refine fr 4 ?_;refine fr 4 ?_;refine aS (Δ:=[_,_,_,_]) (F:=_) (λ_ _ _=>ah rfl _) rfl rfl (bo [.tmp 33,.tmp 34] rfl rfl TO rfl (nk k r3.2.1 O Q.1 Q.2 zz a1 b2 D mc)) ⟨rfl,rfl,trivial⟩ λ_=>?_;refine ja (eI rfl) ?_;refine nt (cw h (λh=>?_) (λh=>?_))
     .refine ab (fr 7 ?_);refine lo xZ ?_;refine mq ?_;refine ja (aW (t:=(.int .u8)) [(.tmp 38,_)] [j] rfl rfl J0 (.cons rfl .int .nil) rfl rfl) ?_;obtain⟨Ve,Y,h⟩:=aa h;refine fr 8 ?_;refine cR rfl rfl rfl (bu rfl rfl J0 (ao Y)) ⟨rfl,rfl,trivial⟩ λU8=>?_;refine mg λo22=>?_;refine fr 1 ?_;refine aM rfl rfl (aK rfl xZ o22 rfl rfl) ⟨rfl,rfl,trivial⟩ ?_;refine aG (aI (bH 5 rfl ?_));refine bH 10 rfl ?_;refine bH 10 rfl ?_;refine bH 8 rfl ?_;refine bH 5 rfl ?_;refine bH 5 rfl ?_;refine bH 9 rfl ?_;refine bH 10 rfl ?_;cases h;exact pZ U8 7 rfl
     .refine bi (aI (bH 3 rfl ?_));refine bH 10 rfl ?_;refine bH 10 rfl ?_;refine bH 6 rfl ?_;refine bH 10 rfl ?_;refine bH 10 rfl ?_;refine bH 9 rfl ?_;refine bH 10 rfl ?_;cases h;exact pZ c 7 rfl
   .replace h:=cG (M6 hj) h;refine aI (tn (sr (fr 3 ?_)));refine lo xZ ?_;obtain⟨U,gw,h⟩:=aa h;refine fr 4 ?_;refine kb (j6 (N:=[(.tmp 41,.eq c),(.func 89,.eq (.func (.func 89) #[] #[]))]) (av [.tmp 41,.func 89] rfl rfl TW rfl (wz k u.1 U gw)) (λ_ _ _ hv hn=>⟨(lend hn.1 hv),hn.2.1,trivial⟩) (λ_=>⟨rfl,nz⟩)) ?_;obtain⟨Va,Z,h⟩:=aa h;refine ja (av [.tmp 42] rfl rfl OY rfl (kU k U Va Z)) ?_;refine aq ?_;refine cq (nt (aC ?_));refine bH 2 rfl ?_;refine Es ?_;cases h;exact rb
   .replace h:=dU (M4 hj) h;cases h
def o9(k:Nat):Option Bool:=
 (jj k ([]:(List aQ))).bind λr1=>
 (jU k r1 [0]).bind λr2=>
 (jj k ([]:(List aQ))).bind λr3=>
 (qO k r3).bind λr4=>
 (jj k ([]:(List aQ))).bind λr5=>
 (ta k r5 2).bind λr6=>
 (jj k ([]:(List aQ))).bind λr8=>
 (tc k r8 [0] 3).bind λr9=>
 (jj k ([]:(List aQ))).bind λu=>
 (vf k u 2).bind λc=>
 (jj k ([]:(List aQ))).bind λs=>
 (qN k s 2).bind λe=>
 ((if r2.2=0 then(if r4.2=0 then(if r6.2=0 then(if r9.2=0 then(if c.2.2=0 then(if e.2=0 then(if r6.1=(1,3) then(if c.1=2 then(if c.2.1=2 then((dT k r2.1 [[1,(-1:Int),(-1:Int),(-1:Int)],[2,0,(-1:Int),(-1:Int)],[3,1,(-1:Int),(-1:Int)],[3,2,0,(-1:Int)],[(-1:Int),3,1,0]]).bind λr=>
 if r=true then((dT k r4.1 [[0],[0,1],[1]]).bind λn=>
 if n=true then((fo k r9.1 [0,1,3]).bind λl=>
 if l=true then((fo k e.1 [1,2]).bind λj=>
 some j) else(some false)) else(some false)) else(some false)) else(some false)) else(some false)) else(some false)) else(some false)) else(some false)) else(some false)) else(some false)) else(some false)) else(some false)):Option (Bool)).bind λh=>
 some h
theorem tY(k:Nat)(r:Bool)(h:o9 k=some r):
 cC (ec Tryz.prog) 11 [] [] (λ_:Unit=>(bF [.eq (.bool r)],[])):=by
 unfold o9 at h
 replace h:=ba h
 refine cC.of 110 Tryz.func11 rfl Tryz.ntmps11 rfl λS w0=>?_
 refine sr ?_
 refine cq ?_
 refine nt ?_
 refine sr ?_
 obtain⟨r1,Vh,h⟩:=aa h
 have Vp:=il k ([]:(List aQ)) r1 Vh
 refine ja (cz (N:=[(.const (.slice none 0 0),.eq (.slice none 0 0))]) (av [.const (.slice none 0 0)] rfl rfl E9 rfl Vp) λ_ _ _ hn=>⟨(aN (t:=(.slice aJ)) (x:=([]:(List aQ))) .nil rfl rfl hn.1),trivial⟩) ?_
 refine ja (aW (t:=Ti) [(.const (.int .i64 (0)),_)] [0] rfl rfl c9 (.cons rfl .int .nil) rfl rfl) ?_
 obtain⟨r2,Vg,h⟩:=aa h
 have Vo:=ql k r1 [0] r2 Vg
 refine jb (bo [.tmp 15,.tmp 16] rfl rfl Rb rfl Vo) ?_
 refine mq ?_
 refine xr ?_
 refine xr ?_
 refine aq ?_
 refine aq ?_
 refine nt ?_
 refine sr ?_
 obtain⟨r3,Vf,h⟩:=aa h
 have Vn:=il k ([]:(List aQ)) r3 Vf
 refine ja (cz (N:=[(.const (.slice none 0 0),.eq (.slice none 0 0))]) (av [.const (.slice none 0 0)] rfl rfl E9 rfl Vn) λ_ _ _ hn=>⟨(aN (t:=(.slice aJ)) (x:=([]:(List aQ))) .nil rfl rfl hn.1),trivial⟩) ?_
 obtain⟨r4,Ve,h⟩:=aa h
 have Vm:=wB k r3 r4 Ve
 refine ja (bo [.tmp 21] rfl rfl Uk rfl Vm) ?_
 refine mq ?_
 refine xr ?_
 refine xr ?_
 refine aq ?_
 refine aq ?_
 refine nt ?_
 refine sr ?_
 obtain⟨r5,Vb,h⟩:=aa h
 have Vl:=il k ([]:(List aQ)) r5 Vb
 refine ja (cz (N:=[(.const (.slice none 0 0),.eq (.slice none 0 0))]) (av [.const (.slice none 0 0)] rfl rfl E9 rfl Vl) λ_ _ _ hn=>⟨(aN (t:=(.slice aJ)) (x:=([]:(List aQ))) .nil rfl rfl hn.1),trivial⟩) ?_
 obtain⟨r6,Va,h⟩:=aa h
 have Vk:=yr k r5 2 r6 Va
 refine jb (bo [.tmp 26,.const (.int .i64 (2))] rfl rfl Uh rfl Vk) ?_
 refine mq ?_
 refine xr ?_
 refine xr ?_
 refine aZ rfl rfl rfl (bp rfl Bc RI) trivial λb7=>?_
 refine aM rfl rfl (aK rfl wi rfl rfl rfl) ⟨rfl,rfl,trivial⟩ ?_
 refine aq ?_
 refine nt ?_
 refine sr ?_
 obtain⟨r8,U8,h⟩:=aa h
 have Vj:=il k ([]:(List aQ)) r8 U8
 refine ja (cz (N:=[(.const (.slice none 0 0),.eq (.slice none 0 0))]) (av [.const (.slice none 0 0)] rfl rfl E9 rfl Vj) λ_ _ _ hn=>⟨(aN (t:=(.slice aJ)) (x:=([]:(List aQ))) .nil rfl rfl hn.1),trivial⟩) ?_
 refine ja (aW (t:=Ti) [(.const (.int .i64 (0)),_)] [0] rfl rfl c9 (.cons rfl .int .nil) rfl rfl) ?_
 obtain⟨r9,zz,h⟩:=aa h
 have Vi:=yt k r8 [0] 3 r9 zz
 refine jc (bo [.tmp 31,.tmp 32,.const (.int .i64 (3))] rfl rfl Ui rfl Vi) ?_
 refine mq ?_
 refine xr ?_
 refine xr ?_
 refine aq ?_
 refine aq ?_
 refine nt ?_
 refine sr ?_
 obtain⟨u,O,h⟩:=aa h
 have Y:=il k ([]:(List aQ)) u O
 refine ja (cz (N:=[(.const (.slice none 0 0),.eq (.slice none 0 0))]) (av [.const (.slice none 0 0)] rfl rfl E9 rfl Y) λ_ _ _ hn=>⟨(aN (t:=(.slice aJ)) (x:=([]:(List aQ))) .nil rfl rfl hn.1),trivial⟩) ?_
 obtain⟨qt,M,h⟩:=aa h
 have X:=zX k u 2 qt M
 refine jb (bo [.tmp 37,.const (.int .i64 (2))] rfl rfl Ul rfl X) ?_
 refine mq ?_
 refine xr ?_
 refine xr ?_
 refine xr ?_
 refine aq ?_
 refine aq ?_
 refine aq ?_
 refine nt ?_
 refine sr ?_
 obtain⟨n,J,h⟩:=aa h
 have U:=il k ([]:(List aQ)) n J
 refine ja (cz (N:=[(.const (.slice none 0 0),.eq (.slice none 0 0))]) (av [.const (.slice none 0 0)] rfl rfl E9 rfl U) λ_ _ _ hn=>⟨(aN (t:=(.slice aJ)) (x:=([]:(List aQ))) .nil rfl rfl hn.1),trivial⟩) ?_
 obtain⟨l,I,h⟩:=aa h
 have Q:=wA k n 2 l I
 refine jb (bo [.tmp 43,.const (.int .i64 (2))] rfl rfl Ug rfl Q) ?_
 refine mq ?_
 refine xr ?_
 refine xr ?_
 refine aq ?_
 refine aq ?_
 refine nt ?_
 refine aF (Z:=Unit) (α:=Bool) (λe c=>[(0,.eq (.bool c))]) (λe c=>[]) h (λK h=>?_) (λe c h=>?_)
 .
  refine ab (mq ?_);refine jb (jL rfl) ?_;refine mq ?_;refine bX (s:=49) rfl (λhb=>?_) (λhb=>?_)
  .replace h:=dU (uA hb) h;refine gm ?_;refine gb (jL rfl) ?_;refine pt ?_;refine mq ?_;refine bX (s:=53) rfl (λhb=>?_) (λhb=>?_)
   .replace h:=dU (uA hb) h;refine gm ?_;refine gb (jL rfl) ?_;refine pt ?_;refine mq ?_;refine bX (s:=57) rfl (λhb=>?_) (λhb=>?_)
    .replace h:=dU (uA hb) h;refine gm ?_;refine gb (jL rfl) ?_;refine pt ?_;refine mq ?_;refine bX (s:=61) rfl (λhb=>?_) (λhb=>?_)
     .replace h:=dU (uA hb) h;refine gm ?_;refine gb (jL rfl) ?_;refine pt ?_;refine mq ?_;refine bX (s:=65) rfl (λhb=>?_) (λhb=>?_)
      .replace h:=dU (uA hb) h;refine gm ?_;refine gb (jL rfl) ?_;refine pt ?_;refine mq ?_;refine bX (s:=69) rfl (λhb=>?_) (λhb=>?_)
       .replace h:=dU (uA hb) h;refine eL rfl rfl rfl rfl rfl rfl (ap rfl wi (qe) rfl) ⟨rfl,trivial⟩ ?_;refine gb (eo [(0,.const (.int .i64 (1)),_),(1,.const (.int .i64 (3)),_)] rfl Hj Bc AN (ku ⟨rfl,rfl,trivial⟩) rfl) ?_;refine ee (ew (t:=bV) (x:=(1,3)) 71 rfl (.agg (.pair .int .int)) trivial rfl) ?_;refine gb (Oy rfl TK rfl) ?_;refine pt ?_;refine mq ?_;refine bX (s:=74) rfl (λhb=>?_) (λhb=>?_)
        .replace h:=dU (uA hb) h;refine gm ?_;refine gb (jL rfl) ?_;refine pt ?_;refine mq ?_;refine bX (s:=78) rfl (λhb=>?_) (λhb=>?_)
         .replace h:=dU (uA hb) h;refine gm ?_;refine gb (jL rfl) ?_;refine pt ?_;refine mq ?_;refine bX (s:=82) rfl (λhb=>?_) (λhb=>?_)
          .replace h:=dU (uA hb) h;refine gm ?_;refine m9 rfl rfl rfl rfl rfl rfl (aW (t:=Ti) [(.const (.int .i64 (1)),_),(.const (.int .i64 (-1)),_),(.const (.int .i64 (-1)),_),(.const (.int .i64 (-1)),_)] [1,(-1:Int),(-1:Int),(-1:Int)] rfl rfl c9 (.cons rfl .int (.cons rfl .int (.cons rfl .int (.cons rfl .int .nil)))) rfl rfl) ⟨rfl,rfl,rfl,rfl,trivial⟩ ?_;refine m9 rfl rfl rfl rfl rfl rfl (aW (t:=Ti) [(.const (.int .i64 (2)),_),(.const (.int .i64 (0)),_),(.const (.int .i64 (-1)),_),(.const (.int .i64 (-1)),_)] [2,0,(-1:Int),(-1:Int)] rfl rfl c9 (.cons rfl .int (.cons rfl .int (.cons rfl .int (.cons rfl .int .nil)))) rfl rfl) ⟨rfl,rfl,rfl,rfl,trivial⟩ ?_;refine m9 rfl rfl rfl rfl rfl rfl (aW (t:=Ti) [(.const (.int .i64 (3)),_),(.const (.int .i64 (1)),_),(.const (.int .i64 (-1)),_),(.const (.int .i64 (-1)),_)] [3,1,(-1:Int),(-1:Int)] rfl rfl c9 (.cons rfl .int (.cons rfl .int (.cons rfl .int (.cons rfl .int .nil)))) rfl rfl) ⟨rfl,rfl,rfl,rfl,trivial⟩ ?_;refine m9 rfl rfl rfl rfl rfl rfl (aW (t:=Ti) [(.const (.int .i64 (3)),_),(.const (.int .i64 (2)),_),(.const (.int .i64 (0)),_),(.const (.int .i64 (-1)),_)] [3,2,0,(-1:Int)] rfl rfl c9 (.cons rfl .int (.cons rfl .int (.cons rfl .int (.cons rfl .int .nil)))) rfl rfl) ⟨rfl,rfl,rfl,rfl,trivial⟩ ?_;refine m9 rfl rfl rfl rfl rfl rfl (aW (t:=Ti) [(.const (.int .i64 (-1)),_),(.const (.int .i64 (3)),_),(.const (.int .i64 (1)),_),(.const (.int .i64 (0)),_)] [(-1:Int),3,1,0] rfl rfl c9 (.cons rfl .int (.cons rfl .int (.cons rfl .int (.cons rfl .int .nil)))) rfl rfl) ⟨rfl,rfl,rfl,rfl,trivial⟩ ?_;refine m9 rfl rfl rfl rfl rfl rfl (aW (t:=Tl) [(.tmp 84,_),(.tmp 85,_),(.tmp 86,_),(.tmp 87,_),(.tmp 88,_)] [[1,(-1:Int),(-1:Int),(-1:Int)],[2,0,(-1:Int),(-1:Int)],[3,1,(-1:Int),(-1:Int)],[3,2,0,(-1:Int)],[(-1:Int),3,1,0]] rfl rfl nm (.cons rfl .rep (.cons rfl .rep (.cons rfl .rep (.cons rfl .rep (.cons rfl .rep .nil))))) rfl rfl) ⟨rfl,rfl,rfl,rfl,rfl,trivial⟩ ?_;obtain⟨mw,F,h⟩:=aa h;refine gb (av [.tmp 83,.tmp 89] rfl rfl Lt rfl (im k r2.1 [[1,(-1:Int),(-1:Int),(-1:Int)],[2,0,(-1:Int),(-1:Int)],[3,1,(-1:Int),(-1:Int)],[3,2,0,(-1:Int)],[(-1:Int),3,1,0]] mw F)) ?_;refine pt ?_;refine mq ?_;refine bX (s:=92) rfl (λhb=>?_) (λhb=>?_)
           .replace h:=dU (M4 hb) h;refine gm ?_;refine ga (aW (t:=Ti) [(.const (.int .i64 (0)),_)] [0] rfl rfl c9 (.cons rfl .int .nil) rfl rfl) ?_;refine gb (aW (t:=Ti) [(.const (.int .i64 (0)),_),(.const (.int .i64 (1)),_)] [0,1] rfl rfl c9 (.cons rfl .int (.cons rfl .int .nil)) rfl rfl) ?_;refine ga (aW (t:=Ti) [(.const (.int .i64 (1)),_)] [1] rfl rfl c9 (.cons rfl .int .nil) rfl rfl) ?_;refine gc (aW (t:=Tl) [(.tmp 94,_),(.tmp 95,_),(.tmp 96,_)] [[0],[0,1],[1]] rfl rfl nm (.cons rfl .rep (.cons rfl .rep (.cons rfl .rep .nil))) rfl rfl) ?_;obtain⟨mc,E,h⟩:=aa h;refine gb (av [.tmp 93,.tmp 97] rfl rfl Lt rfl (im k r4.1 [[0],[0,1],[1]] mc E)) ?_;refine pt ?_;refine mq ?_;refine bX (s:=100) rfl (λhb=>?_) (λhb=>?_)
            .replace h:=dU (M4 hb) h;refine gm ?_;refine gc (aW (t:=Ti) [(.const (.int .i64 (0)),_),(.const (.int .i64 (1)),_),(.const (.int .i64 (3)),_)] [0,1,3] rfl rfl c9 (.cons rfl .int (.cons rfl .int (.cons rfl .int .nil))) rfl rfl) ?_;obtain⟨gw,D,h⟩:=aa h;refine gb (av [.tmp 101,.tmp 102] rfl rfl Ls rfl (iW k r9.1 [0,1,3] gw D)) ?_;refine pt ?_;refine mq ?_;refine bX (s:=105) rfl (λhb=>?_) (λhb=>?_)
             .replace h:=dU (M4 hb) h;refine gm ?_;refine gb (aW (t:=Ti) [(.const (.int .i64 (1)),_),(.const (.int .i64 (2)),_)] [1,2] rfl rfl c9 (.cons rfl .int (.cons rfl .int .nil)) rfl rfl) ?_;obtain⟨j,y,h⟩:=aa h;refine gb (av [.tmp 106,.tmp 107] rfl rfl Ls rfl (iW k l.1 [1,2] j y)) ?_;refine pt ?_;refine aq (nl ?_);exact jz ((),j) h []
             .replace h:=cG (M6 hb) h;iterate 3 refine gn ?_
              refine pf ?_;refine aq (nl ?_);exact jz ((),false) h []
            .replace h:=cG (M6 hb) h;iterate 3 refine gn ?_
             refine pf ?_;refine mq ?_;iterate 3 refine gn ?_
             refine pf ?_;refine aq (nl ?_);exact jz ((),false) h []
           .replace h:=cG (M6 hb) h;iterate 6 refine gn ?_
            refine pf ?_;refine mq ?_;iterate 3 refine gn ?_
            refine pf ?_;refine mq ?_;iterate 3 refine gn ?_
            refine pf ?_;refine aq (nl ?_);exact jz ((),false) h []
          .replace h:=cG (uB hb) h;iterate 8 refine gn ?_
           refine pf ?_;refine mq ?_;iterate 6 refine gn ?_
           refine pf ?_;refine mq ?_;iterate 3 refine gn ?_
           refine pf ?_;refine mq ?_;iterate 3 refine gn ?_
           refine pf ?_;refine aq (nl ?_);exact jz ((),false) h []
         .replace h:=cG (uB hb) h;iterate 2 refine gn ?_
          refine pf ?_;refine mq ?_;iterate 8 refine gn ?_
          refine pf ?_;refine mq ?_;iterate 6 refine gn ?_
          refine pf ?_;refine mq ?_;iterate 3 refine gn ?_
          refine pf ?_;refine mq ?_;iterate 3 refine gn ?_
          refine pf ?_;refine aq (nl ?_);exact jz ((),false) h []
        .replace h:=cG (uB hb) h;iterate 2 refine gn ?_
         refine pf ?_;refine mq ?_;iterate 2 refine gn ?_
         refine pf ?_;refine mq ?_;iterate 8 refine gn ?_
         refine pf ?_;refine mq ?_;iterate 6 refine gn ?_
         refine pf ?_;refine mq ?_;iterate 3 refine gn ?_
         refine pf ?_;refine mq ?_;iterate 3 refine gn ?_
         refine pf ?_;refine aq (nl ?_);exact jz ((),false) h []
       .replace h:=cG (uB hb) h;iterate 3 refine gn ?_
        refine pf ?_;refine mq ?_;iterate 2 refine gn ?_
        refine pf ?_;refine mq ?_;iterate 2 refine gn ?_
        refine pf ?_;refine mq ?_;iterate 8 refine gn ?_
        refine pf ?_;refine mq ?_;iterate 6 refine gn ?_
        refine pf ?_;refine mq ?_;iterate 3 refine gn ?_
        refine pf ?_;refine mq ?_;iterate 3 refine gn ?_
        refine pf ?_;refine aq (nl ?_);exact jz ((),false) h []
      .replace h:=cG (uB hb) h;iterate 2 refine gn ?_
       refine pf ?_;refine mq ?_;iterate 3 refine gn ?_
       refine pf ?_;refine mq ?_;iterate 2 refine gn ?_
       refine pf ?_;refine mq ?_;iterate 2 refine gn ?_
       refine pf ?_;refine mq ?_;iterate 8 refine gn ?_
       refine pf ?_;refine mq ?_;iterate 6 refine gn ?_
       refine pf ?_;refine mq ?_;iterate 3 refine gn ?_
       refine pf ?_;refine mq ?_;iterate 3 refine gn ?_
       refine pf ?_;refine aq (nl ?_);exact jz ((),false) h []
     .replace h:=cG (uB hb) h;iterate 2 refine gn ?_
      refine pf ?_;refine mq ?_;iterate 2 refine gn ?_
      refine pf ?_;refine mq ?_;iterate 3 refine gn ?_
      refine pf ?_;refine mq ?_;iterate 2 refine gn ?_
      refine pf ?_;refine mq ?_;iterate 2 refine gn ?_
      refine pf ?_;refine mq ?_;iterate 8 refine gn ?_
      refine pf ?_;refine mq ?_;iterate 6 refine gn ?_
      refine pf ?_;refine mq ?_;iterate 3 refine gn ?_
      refine pf ?_;refine mq ?_;iterate 3 refine gn ?_
      refine pf ?_;refine aq (nl ?_);exact jz ((),false) h []
    .replace h:=cG (uB hb) h;iterate 2 refine gn ?_
     refine pf ?_;refine mq ?_;iterate 2 refine gn ?_
     refine pf ?_;refine mq ?_;iterate 2 refine gn ?_
     refine pf ?_;refine mq ?_;iterate 3 refine gn ?_
     refine pf ?_;refine mq ?_;iterate 2 refine gn ?_
     refine pf ?_;refine mq ?_;iterate 2 refine gn ?_
     refine pf ?_;refine mq ?_;iterate 8 refine gn ?_
     refine pf ?_;refine mq ?_;iterate 6 refine gn ?_
     refine pf ?_;refine mq ?_;iterate 3 refine gn ?_
     refine pf ?_;refine mq ?_;iterate 3 refine gn ?_
     refine pf ?_;refine aq (nl ?_);exact jz ((),false) h []
   .replace h:=cG (uB hb) h;iterate 2 refine gn ?_
    refine pf ?_;refine mq ?_;iterate 2 refine gn ?_
    refine pf ?_;refine mq ?_;iterate 2 refine gn ?_
    refine pf ?_;refine mq ?_;iterate 2 refine gn ?_
    refine pf ?_;refine mq ?_;iterate 3 refine gn ?_
    refine pf ?_;refine mq ?_;iterate 2 refine gn ?_
    refine pf ?_;refine mq ?_;iterate 2 refine gn ?_
    refine pf ?_;refine mq ?_;iterate 8 refine gn ?_
    refine pf ?_;refine mq ?_;iterate 6 refine gn ?_
    refine pf ?_;refine mq ?_;iterate 3 refine gn ?_
    refine pf ?_;refine mq ?_;iterate 3 refine gn ?_
    refine pf ?_;refine aq (nl ?_);exact jz ((),false) h []
  .replace h:=cG (uB hb) h;iterate 2 refine gn ?_
   refine pf ?_;refine mq ?_;iterate 2 refine gn ?_
   refine pf ?_;refine mq ?_;iterate 2 refine gn ?_
   refine pf ?_;refine mq ?_;iterate 2 refine gn ?_
   refine pf ?_;refine mq ?_;iterate 2 refine gn ?_
   refine pf ?_;refine mq ?_;iterate 3 refine gn ?_
   refine pf ?_;refine mq ?_;iterate 2 refine gn ?_
   refine pf ?_;refine mq ?_;iterate 2 refine gn ?_
   refine pf ?_;refine mq ?_;iterate 8 refine gn ?_
   refine pf ?_;refine mq ?_;iterate 6 refine gn ?_
   refine pf ?_;refine mq ?_;iterate 3 refine gn ?_
   refine pf ?_;refine mq ?_;iterate 3 refine gn ?_
   refine pf ?_;refine aq (nl ?_);exact jz ((),false) h []
 .
  refine aC ?_;cases h;exact ra
def fF(k:Nat)(r4:(List Int)×bK):Nat->((List Int)×Int×Int×Int×(List (List Int)))->Option ((List Int)×Int×Int×(List (List Int)))
 |0,_=>none
 |n+1,y7=>
  if y7.2.2.2.1 < (r4.1.length:Int) then((((eC k (y7.1,y7.2.1,y7.2.2.1) 5).bind λc=>
  if c.1=true then(some (c.2.1,c.2.2.1,c.2.2.2,y7.2.2.2.2)) else((ck ((y7.2.2.2.2.length:Int) - 1)).bind λr=>
  (cF k (c.2.1,c.2.2.1,c.2.2.2) r).bind λe=>
  (aH y7.2.2.2.2 e.1).bind λj=>
  (aH r4.1 y7.2.2.2.1).bind λh=>
  (cf (bA (length j+length [h]))).bind λ_=>
  some (e.2.1,e.2.2.1,e.2.2.2,List.set y7.2.2.2.2 (Int.toNat e.1) (j++[h])))):Option ((List Int)×Int×Int×(List (List Int)))).bind λx9=>
  (ck (y7.2.2.2.1+1)).bind λl=>
  fF k r4 n (x9.1,x9.2.1,x9.2.2.1,l,x9.2.2.2)) else(some (y7.1,y7.2.1,y7.2.2.1,y7.2.2.2.2))
def kz(k:Nat)(a0:bK)(a1:Int):Option ((List (List Int))×bK):=
 (fV k (a0.1,a0.2.1,a0.2.2) 1 3).bind λr1=>
 (cf (0≤r1.1/\bA (Int.toNat r1.1))).bind λ_=>
 (ib k (r1.2.1,r1.2.2.1,r1.2.2.2) a1).bind λr4=>
 ((fF k r4 k (r4.2.1,r4.2.2.1,r4.2.2.2,0,List.replicate (Int.toNat r1.1) ([]:(List Int)))):Option ((List Int)×Int×Int×(List (List Int)))).bind λx5=>
 some (x5.2.2.2,(x5.1,x5.2.1,x5.2.2.1))
theorem vm(k:Nat)(a0:bK)(c:Nat)(a1:Int)(r:(List (List Int))×bK)(h:kz k a0 a1=some r):
 cV Tryz.prog 100 [Pt c,I a1] [.obj c 74 (.agg (.pair (.rep Tl a0.1) (.pair (I a0.2.1) (.eq (.int .u64 a0.2.2)))))] (λ_:Unit=>(bF [.rep (.slice Tl) r.1],[.obj c 74 (.agg (.pair (.rep Tl r.2.1) (.pair (I r.2.2.1) (.eq (.int .u64 r.2.2.2)))))])):=by
 unfold kz at h
 replace h:=ba h
 refine cV.of 42 Tryz.func100 rfl Tryz.ntmps100 rfl λS w0=>?_
 refine sr ?_
 refine cq ?_
 refine nt ?_
 refine sr ?_
 refine mq ?_
 obtain⟨r1,Vj,h⟩:=aa h
 have Vl:=jD k (a0.1,a0.2.1,a0.2.2) c 1 3 r1 Vj
 refine kc (av [.tmp 9,.const (.int .i64 (1)),.const (.int .i64 (3))] rfl rfl Lp rfl Vl) ?_
 obtain⟨u2,U,h⟩:=aa h
 refine aZ rfl rfl rfl (Ox (t:=.val) (d:=.slice none 0 0) rfl nm P1 (ao U).1 (ao U).2) ⟨rfl,rfl,trivial⟩ λv3=>?_
 refine ee (IX (F:=[.obj c 74 (.agg (.pair (.rep Tl r1.2.1) (.pair (I r1.2.2.1) (.eq (.int .u64 r1.2.2.2)))))])) ?_
 refine aq ?_
 refine nt ?_
 refine sr ?_
 iterate 2 refine mq ?_
 obtain⟨r4,Vi,h⟩:=aa h
 have Vk:=sa k (r1.2.1,r1.2.2.1,r1.2.2.2) c a1 r4 Vi
 refine kb (av [.tmp 12,.tmp 13] rfl rfl Rr rfl Vk) ?_
 refine aq ?_
 refine nt ?_
 refine aF (Z:=(Value×(Nat->Value))) (α:=(List Int)×Int×Int×(List (List Int))) (λz6 x5=>[(5,.eq z6.1)]) (λz6 x5=>[.obj c 74 (.agg (.pair (.rep Tl x5.1) (.pair (I x5.2.1) (.eq (.int .u64 x5.2.2.1)))))]++yk 28 z6 x5.2.2.2) h (λK h=>?_) (λz6 x5 h=>?_)
 .
  refine sr (cq (nt (ai ?_)));refine aD (Z:=(Value×(Nat->Value))) (α:=(List Int)×Int×Int×Int×(List (List Int))) (λz8 y7=>[(0,Pt c),(5,.eq z8.1),(6,.rep Tl r4.1),(7,I y7.2.2.2.1)]) (λz8 y7=>[.obj c 74 (.agg (.pair (.rep Tl y7.1) (.pair (I y7.2.1) (.eq (.int .u64 y7.2.2.1)))))]++yk 28 z8 y7.2.2.2.2) (fF k r4) k (v3,λ_=>.slice none 0 0) (r4.2.1,r4.2.2.1,r4.2.2.2,0,List.replicate (Int.toNat r1.1) ([]:(List Int))) (λ_=>rfl) h (lw [.obj c 74 (.agg (.pair (.rep Tl r4.2.1) (.pair (I r4.2.2.1) (.eq (.int .u64 r4.2.2.2)))))] (yk 28 (v3,λ_=>.slice none 0 0) (List.replicate (Int.toNat r1.1) ([]:(List Int)))) [0] ⟨rfl,rfl,rfl,rfl,trivial⟩ rfl) (λn z8 y7 h=>?_);unfold fF at h;refine aj (sr ?_);iterate 2 refine mq ?_
  refine ol gG ?_;refine jb (bq rfl) ?_;refine nt (ci h (λh=>?_) (λh=>?_))
  .refine sk (aF (Z:=(Value×(Nat->Value))) (α:=(List Int)×Int×Int×(List (List Int))) (λy x9=>[(0,Pt c),(5,.eq y.1),(6,.rep Tl r4.1),(7,I y7.2.2.2.1)]) (λy x9=>[.obj c 74 (.agg (.pair (.rep Tl x9.1) (.pair (I x9.2.1) (.eq (.int .u64 x9.2.2.1)))))]++yk 28 y x9.2.2.2) h (λK h=>?_) (λy x9 h=>?_))
   .refine ai (aj (sr (mq ?_)));obtain⟨j,gw,h⟩:=aa h;refine kb (av [.tmp 21,.const (.int .i64 (5))] rfl rfl Lr rfl (io k (y7.1,y7.2.1,y7.2.2.1) c 5 j gw)) ?_;refine nt (cv h (λh=>?_) (λh=>?_))
    .refine fq (bL (c6 (ax ?_)));exact vS (z8,(j.2.1,j.2.2.1,j.2.2.2,y7.2.2.2.2)) h (lw [.obj c 74 (.agg (.pair (.rep Tl j.2.1) (.pair (I j.2.2.1) (.eq (.int .u64 j.2.2.2)))))] (yk 28 z8 y7.2.2.2.2) [0] ⟨rfl,rfl,rfl,rfl,trivial⟩ rfl)
    .refine sk (sr ?_);iterate 2 refine mq ?_
     refine I5 (pre:=[.obj c 74 (.agg (.pair (.rep Tl j.2.1) (.pair (I j.2.2.1) (.eq (.int .u64 j.2.2.2)))))]) rfl rfl rfl rfl rfl pY ⟨rfl,trivial⟩ ?_;obtain⟨mw,Q,h⟩:=aa h;refine jb (ek rfl Q) ?_;obtain⟨e,Y,h⟩:=aa h;refine kb (av [.tmp 23,.tmp 26] rfl rfl wE rfl (cP k (j.2.1,j.2.2.1,j.2.2.2) c mw e Y)) ?_;refine aq (nt ?_);obtain⟨x,s,h⟩:=aa h;refine gu (FI (pre:=[.obj c 74 (.agg (.pair (.rep Tl e.2.1) (.pair (I e.2.2.1) (.eq (.int .u64 e.2.2.2)))))]) (DI s).2) ?_;obtain⟨u,O,h⟩:=aa h;obtain⟨u16,X,h⟩:=aa h;refine I8 (Δ:=[.sl (z8.2 (Int.toNat e.1)) 3 Ti x,.sl z8.1 28 .val (oH z8.2 0 y7.2.2.2.2),.obj c 74 (.agg (.pair (.rep Tl e.2.1) (.pair (I e.2.2.1) (.eq (.int .u64 e.2.2.2)))))]) (F:=(ot z8.2 0 y7.2.2.2.2).eraseIdx (Int.toNat e.1)) (Z:=Value) (λi=>[(0,Pt c),(5,.eq z8.1),(6,.rep Tl r4.1),(7,I y7.2.2.2.1)]) (λi=>[.sl z8.1 28 .val (List.set (oH z8.2 0 y7.2.2.2.2) (Int.toNat e.1) i),.sl i 3 Ti (x++[u]),.obj c 74 (.agg (.pair (.rep Tl e.2.1) (.pair (I e.2.2.1) (.eq (.int .u64 e.2.2.2)))))]) (λS w=>?_) (λl=>?_)
     .refine px ?_;refine bD rfl rfl rfl (aO rfl) ⟨rfl,trivial⟩ ?_;refine bD rfl rfl rfl (aO rfl) ⟨rfl,trivial⟩ ?_;refine bD rfl rfl rfl (aO rfl) ⟨rfl,trivial⟩ ?_;refine bD rfl rfl rfl (aO rfl) ⟨rfl,trivial⟩ ?_;refine iy 1 rfl rfl rfl rfl (cH (t:=.val) rfl pY fC (uk s)) ⟨rfl,rfl,trivial⟩ ?_;refine iy 1 rfl rfl rfl rfl (gA (i:=Int.toNat e.1) (off:=0) rfl fC (λ_=>rfl) rfl (dF (uk s)).2.2 rfl) ⟨rfl,trivial⟩ ?_;refine bD rfl rfl rfl (aO rfl) ⟨rfl,trivial⟩ ?_;refine bD rfl rfl rfl (aO rfl) ⟨rfl,trivial⟩ ?_;refine bD rfl rfl rfl (aE (t:=Ti) rfl gG bW O) ⟨rfl,rfl,trivial⟩ ?_;refine bD rfl rfl rfl (an (t:=Ti) rfl bW rfl) ⟨rfl,trivial⟩ ?_;refine bD rfl rfl rfl (aW (t:=Ti) [(.tmp 37,_)] [u] rfl rfl c9 (.cons rfl .int .nil) rfl rfl) ⟨rfl,trivial⟩ ?_;refine Jh 0 rfl (λv=>[.sl v 3 Ti (x++[u])]) (λ_=>rfl) rfl rfl rfl (bu rfl rfl c9 (ao X)) ⟨rfl,rfl,trivial⟩ ?_;refine tO 12 [true,true,true,true,true,true,true,true,true,true,true,true] [40] [] [] rfl (by kernel_rfl) (by kernel_rfl) (by kernel_rfl) cS (λvs hv hB=>?_);obtain⟨w0,Vy,rfl,Vh⟩:=aA hv;obtain⟨w1,Vx,rfl,Vg⟩:=aA Vh;obtain⟨w2,Vw,rfl,Vf⟩:=aA Vg;obtain⟨w3,Vv,rfl,Ve⟩:=aA Vf;obtain⟨w4,Vu,rfl,Vb⟩:=aA Ve;obtain⟨w5,Vt,rfl,Va⟩:=aA Vb;obtain⟨w6,Vs,rfl,U8⟩:=aA Va;obtain⟨w7,Vr,rfl,zz⟩:=aA U8;obtain⟨w8,Vq,rfl,qt⟩:=aA zz;obtain⟨w9,Vo,rfl,J⟩:=aA qt;obtain⟨Vp,Vn,rfl,E⟩:=aA J;obtain⟨l,Vm,rfl,D⟩:=aA E;obtain rfl:=pL D;refine⟨[0,1,2],[.sl z8.1 28 .val (oH z8.2 0 y7.2.2.2.2),.obj c 74 (.agg (.pair (.rep Tl e.2.1) (.pair (I e.2.2.1) (.eq (.int .u64 e.2.2.2))))),.sl l 3 Ti (x++[u])],by kernel_rfl,by decide,?_⟩;refine vP rfl rfl rfl rfl (cH (t:=.val) rfl pY fC (uk s)) ⟨rfl,rfl,trivial⟩ (by kernel_rfl) ?_;refine sE 2 rfl ?_;refine PG λo18=>?_;refine sE 1 rfl ?_;refine rj rfl rfl (gY (i:=Int.toNat e.1) rfl fC rfl (nT (uk s)) rfl (.val o18) o18) ⟨rfl,rfl,trivial⟩ (by kernel_rfl) ?_;refine vQ ?_;refine bM (SE.fin (Γ':=[(0,Pt c),(5,.eq z8.1),(6,.rep Tl r4.1),(7,I y7.2.2.2.1)]) (Δ':=[.sl z8.1 28 .val (List.set (oH z8.2 0 y7.2.2.2.2) (Int.toNat e.1) l),.sl l 3 Ti (x++[u]),.obj c 74 (.agg (.pair (.rep Tl e.2.1) (.pair (I e.2.2.1) (.eq (.int .u64 e.2.2.2)))))]) [0,1,2] ⟨rfl,rfl,rfl,rfl,trivial⟩ rfl) ?_;exact λa w st=>⟨rfl,(l),(SE.fin (Γ':=[(0,Pt c),(5,.eq z8.1),(6,.rep Tl r4.1),(7,I y7.2.2.2.1)]) (Δ':=[.sl z8.1 28 .val (List.set (oH z8.2 0 y7.2.2.2.2) (Int.toNat e.1) l),.sl l 3 Ti (x++[u]),.obj c 74 (.agg (.pair (.rep Tl e.2.1) (.pair (I e.2.2.1) (.eq (.int .u64 e.2.2.2)))))]) [0,1,2] ⟨rfl,rfl,rfl,rfl,trivial⟩ rfl) a w st⟩
     .show JN _ _ [(0,Pt c),(5,.eq z8.1),(6,.rep Tl r4.1),(7,I y7.2.2.2.1)] ([.sl z8.1 28 .val (List.set (oH z8.2 0 y7.2.2.2.2) (Int.toNat e.1) l),.sl l 3 Ti (x++[u]),.obj c 74 (.agg (.pair (.rep Tl e.2.1) (.pair (I e.2.2.1) (.eq (.int .u64 e.2.2.2)))))]++(ot z8.2 0 y7.2.2.2.2).eraseIdx (Int.toNat e.1));refine bH 1 rfl ?_;refine bM (CX (pre:=[.obj c 74 (.agg (.pair (.rep Tl e.2.1) (.pair (I e.2.2.1) (.eq (.int .u64 e.2.2.2)))))]) (z:=z8) (i:=Int.toNat e.1) (DI s).2) ?_;refine bn ?_;exact vS ((z8.1,Bt z8.2 (Int.toNat e.1) l),(e.2.1,e.2.2.1,e.2.2.2,List.set y7.2.2.2.2 (Int.toNat e.1) (x++[u]))) h (lw [.obj c 74 (.agg (.pair (.rep Tl e.2.1) (.pair (I e.2.2.1) (.eq (.int .u64 e.2.2.2)))))] (yk 28 (z8.1,Bt z8.2 (Int.toNat e.1) l) (List.set y7.2.2.2.2 (Int.toNat e.1) (x++[u]))) [0] ⟨rfl,rfl,rfl,rfl,trivial⟩ rfl)
   .refine ab (mq ?_);obtain⟨mc,M,h⟩:=aa h;refine jb (bj rfl M) ?_;refine aq (nl ?_);exact vS (y,(x9.1,x9.2.1,x9.2.2.1,mc,x9.2.2.2)) h (lw [.obj c 74 (.agg (.pair (.rep Tl x9.1) (.pair (I x9.2.1) (.eq (.int .u64 x9.2.2.1)))))] (yk 28 y x9.2.2.2) [0] ⟨rfl,rfl,rfl,rfl,trivial⟩ rfl)
  .refine xa ?_;exact vS (z8,(y7.1,y7.2.1,y7.2.2.1,y7.2.2.2.2)) h (lw [.obj c 74 (.agg (.pair (.rep Tl y7.1) (.pair (I y7.2.1) (.eq (.int .u64 y7.2.2.1)))))] (yk 28 z8 y7.2.2.2.2) [0] ⟨rfl,trivial⟩ rfl)
 .
  refine sr (mq ?_);refine aq (nt (aC ?_));refine bM (IY (pre:=[.obj c 74 (.agg (.pair (.rep Tl x5.1) (.pair (I x5.2.1) (.eq (.int .u64 x5.2.2.1)))))])) ?_;refine bM (ie [4,5,41] ⟨rfl,rfl,rfl,trivial⟩) ?_;cases h;exact aP () [_] 1 ⟨rfl,trivial⟩ rfl
def fG(k:Nat)(r2:Int×bK):Nat->((List Int)×Int×Int×(List (List (List Int)))×Int)->Option ((List (List (List Int)))×(List Int)×Int×Int)
 |0,_=>none
 |n+1,c=>
  if 0 < c.2.2.2.2 then(((((if 0 < (c.2.2.2.1.length:Int) then((eC k (c.1,c.2.1,c.2.2.1) 3).bind λl=>
  some (l.2.1,l.2.2.1,l.2.2.2,l.1)) else(some (c.1,c.2.1,c.2.2.1,false))):Option ((List Int)×Int×Int×Bool)).bind λe=>
  if e.2.2.2=true then((ck ((c.2.2.2.1.length:Int) - 1)).bind λx=>
  (aH c.2.2.2.1 x).bind λu=>
  (gB k u).bind λr=>
  (cf (bA (length c.2.2.2.1+length [r]))).bind λ_=>
  some (e.1,e.2.1,e.2.2.1,c.2.2.2.1++[r])) else((kz k (e.1,e.2.1,e.2.2.1) r2.1).bind λh=>
  (cf (bA (length c.2.2.2.1+length [h.1]))).bind λ_=>
  some (h.2.1,h.2.2.1,h.2.2.2,c.2.2.2.1++[h.1]))):Option ((List Int)×Int×Int×(List (List (List Int))))).bind λj=>
  (ck (c.2.2.2.2 - 1)).bind λs=>
  fG k r2 n (j.1,j.2.1,j.2.2.1,j.2.2.2,s)) else(some (c.2.2.2.1,c.1,c.2.1,c.2.2.1))
def kA(k:Nat)(a0:bK)(a1:Int)(a2:Int):Option (ae×bK):=
 (fV k (a0.1,a0.2.1,a0.2.2) 1 a1).bind λr2=>
 (cF k (r2.2.1,r2.2.2.1,r2.2.2.2) 3).bind λr3=>
 (ia k (r3.2.1,r3.2.2.1,r3.2.2.2) [0,1,1,2,r3.1]).bind λr4=>
 (cF k (r4.2.1,r4.2.2.1,r4.2.2.2) 3).bind λr5=>
 (ia k (r5.2.1,r5.2.2.1,r5.2.2.2) [0,1,2,r5.1]).bind λr6=>
 (fV k (r6.2.1,r6.2.2.1,r6.2.2.2) 1 3).bind λr7=>
 (ia k (r7.2.1,r7.2.2.1,r7.2.2.2) [1,2,r7.1]).bind λr8=>
 (((fV k (r8.2.1,r8.2.2.1,r8.2.2.2) 1 a2).bind λe=>
 fG k r2 k (e.2.1,e.2.2.1,e.2.2.2,([]:(List (List (List Int)))),e.1)):Option ((List (List (List Int)))×(List Int)×Int×Int)).bind λc=>
 some ((r2.1,r4.1,r6.1,r8.1,c.1,[]),(c.2.1,c.2.2.1,c.2.2.2))
theorem vo(k:Nat)(a0:bK)(c:Nat)(a1:Int)(a2:Int)(r:ae×bK)(h:kA k a0 a1 a2=some r):
 cV Tryz.prog 65 [Pt c,I a1,I a2] [.obj c 74 (.agg (.pair (.rep Tl a0.1) (.pair (I a0.2.1) (.eq (.int .u64 a0.2.2)))))] (λ_:Unit=>(bF [.agg (.pair (I r.1.1) (.pair (I r.1.2.1) (.pair (I r.1.2.2.1) (.pair (I r.1.2.2.2.1) (.pair (.rep (.slice (.slice Tl)) r.1.2.2.2.2.1) (.eq (.slice none 0 0)))))))],[.obj c 74 (.agg (.pair (.rep Tl r.2.1) (.pair (I r.2.2.1) (.eq (.int .u64 r.2.2.2)))))])):=by
 unfold kA at h
 replace h:=ba h
 refine cV.of 67 Tryz.func65 rfl Tryz.ntmps65 rfl λS w0=>?_
 refine sr ?_
 refine aZ rfl rfl rfl (bp rfl t8 wH) trivial λb1=>?_
 refine nt ?_
 refine sr ?_
 iterate 2 refine mq ?_
 obtain⟨r2,Vm,h⟩:=aa h
 have Vt:=jD k (a0.1,a0.2.1,a0.2.2) c 1 a1 r2 Vm
 refine fr 1 ?_
 refine kc (av [.tmp 10,.const (.int .i64 (1)),.tmp 11] rfl rfl Lp rfl Vt) ?_
 iterate 2 refine mq ?_
 obtain⟨r3,Vl,h⟩:=aa h
 have Vs:=cP k (r2.2.1,r2.2.2.1,r2.2.2.2) c 3 r3 Vl
 refine kb (av [.tmp 14,.const (.int .i64 (3))] rfl rfl wE rfl Vs) ?_
 refine co rfl (aW (t:=Ti) [(.const (.int .i64 (0)),_),(.const (.int .i64 (1)),_),(.const (.int .i64 (1)),_),(.const (.int .i64 (2)),_),(.tmp 15,_)] [0,1,1,2,r3.1] rfl rfl c9 (.cons rfl .int (.cons rfl .int (.cons rfl .int (.cons rfl .int (.cons rfl .int .nil))))) rfl rfl) ⟨rfl,rfl,rfl,rfl,rfl,trivial⟩ ?_
 obtain⟨r4,Vk,h⟩:=aa h
 have Vr:=l6 k (r3.2.1,r3.2.2.1,r3.2.2.2) c [0,1,1,2,r3.1] r4 Vk
 refine kb (av [.tmp 13,.tmp 16] rfl rfl OU rfl Vr) ?_
 iterate 2 refine mq ?_
 obtain⟨r5,Vj,h⟩:=aa h
 have Vq:=cP k (r4.2.1,r4.2.2.1,r4.2.2.2) c 3 r5 Vj
 refine kb (av [.tmp 19,.const (.int .i64 (3))] rfl rfl wE rfl Vq) ?_
 refine co rfl (aW (t:=Ti) [(.const (.int .i64 (0)),_),(.const (.int .i64 (1)),_),(.const (.int .i64 (2)),_),(.tmp 20,_)] [0,1,2,r5.1] rfl rfl c9 (.cons rfl .int (.cons rfl .int (.cons rfl .int (.cons rfl .int .nil)))) rfl rfl) ⟨rfl,rfl,rfl,rfl,trivial⟩ ?_
 obtain⟨r6,Vi,h⟩:=aa h
 have Vp:=l6 k (r5.2.1,r5.2.2.1,r5.2.2.2) c [0,1,2,r5.1] r6 Vi
 refine kb (av [.tmp 18,.tmp 21] rfl rfl OU rfl Vp) ?_
 iterate 2 refine mq ?_
 obtain⟨r7,Vh,h⟩:=aa h
 have Vo:=jD k (r6.2.1,r6.2.2.1,r6.2.2.2) c 1 3 r7 Vh
 refine kc (av [.tmp 24,.const (.int .i64 (1)),.const (.int .i64 (3))] rfl rfl Lp rfl Vo) ?_
 refine jc (aW (t:=Ti) [(.const (.int .i64 (1)),_),(.const (.int .i64 (2)),_),(.tmp 25,_)] [1,2,r7.1] rfl rfl c9 (.cons rfl .int (.cons rfl .int (.cons rfl .int .nil))) rfl rfl) ?_
 obtain⟨r8,Vg,h⟩:=aa h
 have Vn:=l6 k (r7.2.1,r7.2.2.1,r7.2.2.2) c [1,2,r7.1] r8 Vg
 refine kb (av [.tmp 23,.tmp 26] rfl rfl OU rfl Vn) ?_
 refine co rfl (eo [(0,.tmp 12,_),(1,.tmp 17,_),(2,.tmp 22,_),(3,.tmp 27,_)] rfl Ql t8 NA (ku ⟨rfl,rfl,rfl,rfl,trivial⟩) rfl) ⟨rfl,rfl,rfl,rfl,trivial⟩ ?_
 refine aZ rfl rfl rfl (bp rfl t8 wH) trivial λb9=>?_
 refine aM rfl rfl (aK rfl dk trivial rfl rfl) ⟨rfl,rfl,trivial⟩ ?_
 refine nt ?_
 refine aF (Z:=Value) (α:=(List (List (List Int)))×(List Int)×Int×Int) (λJ y=>[(6,Pt b1),(7,Pt b9)]) (λJ y=>[.obj b1 25 (.agg (.pair (I 0) (.pair (I 0) (.pair (I 0) (.pair (I 0) (.pair (.eq (.slice none 0 0)) (.eq (.slice none 0 0)))))))),.obj b9 25 (.agg (.pair (I r2.1) (.pair (I r4.1) (.pair (I r6.1) (.pair (I r8.1) (.pair (.eq J) (.eq (.slice none 0 0)))))))),.sl J 36 (.slice Tl) y.1,.obj c 74 (.agg (.pair (.rep Tl y.2.1) (.pair (I y.2.2.1) (.eq (.int .u64 y.2.2.2)))))]) h (λK h=>?_) (λJ y h=>?_)
 .
  refine sr ?_;iterate 2 refine mq ?_
  obtain⟨F,zz,h⟩:=aa h;refine fr 1 ?_;refine kc (av [.tmp 29,.const (.int .i64 (1)),.tmp 30] rfl rfl Lp rfl (jD k (r8.2.1,r8.2.2.1,r8.2.2.2) c 1 a2 F zz)) ?_;refine aq (nt (ai ?_));refine gu (SE.nil 36 (.slice Tl)) ?_;refine aD (λu e=>[(0,Pt c),(6,Pt b1),(7,Pt b9),(8,I e.2.2.2.2)]) (λu e=>[.obj c 74 (.agg (.pair (.rep Tl e.1) (.pair (I e.2.1) (.eq (.int .u64 e.2.2.1))))),.obj b1 25 (.agg (.pair (I 0) (.pair (I 0) (.pair (I 0) (.pair (I 0) (.pair (.eq (.slice none 0 0)) (.eq (.slice none 0 0)))))))),.obj b9 25 (.agg (.pair (I r2.1) (.pair (I r4.1) (.pair (I r6.1) (.pair (I r8.1) (.pair (.eq u) (.eq (.slice none 0 0)))))))),.sl u 36 (.slice Tl) e.2.2.2.1]) (fG k r2) k (.slice none 0 0) (F.2.1,F.2.2.1,F.2.2.2,([]:(List (List (List Int)))),F.1) (λ_=>rfl) h (SE.fin [1,3,2,0] ⟨rfl,rfl,rfl,rfl,trivial⟩ rfl) (λn u e h=>?_);unfold fG at h;refine aj (sr (mq ?_));refine jb (iD rfl) ?_;refine nt (ci h (λh=>?_) (λh=>?_))
  .refine sk (aF (Z:=Value) (α:=(List Int)×Int×Int×(List (List (List Int)))) (λD l=>[(0,Pt c),(6,Pt b1),(7,Pt b9),(8,I e.2.2.2.2)]) (λD l=>[.obj c 74 (.agg (.pair (.rep Tl l.1) (.pair (I l.2.1) (.eq (.int .u64 l.2.2.1))))),.obj b1 25 (.agg (.pair (I 0) (.pair (I 0) (.pair (I 0) (.pair (I 0) (.pair (.eq (.slice none 0 0)) (.eq (.slice none 0 0)))))))),.obj b9 25 (.agg (.pair (I r2.1) (.pair (I r4.1) (.pair (I r6.1) (.pair (I r8.1) (.pair (.eq D) (.eq (.slice none 0 0)))))))),.sl D 36 (.slice Tl) l.2.2.2]) h (λK h=>?_) (λD l h=>?_))
   .refine ai (aj (sr (fl bS ?_)));refine fr 2 ?_;refine lo eH ?_;refine fr 3 ?_;refine ka (np rfl rfl oy) ?_;refine aq (nt ?_);refine aF (Z:=Unit) (α:=(List Int)×Int×Int×Bool) (λQ j=>[(0,Pt c),(6,Pt b1),(7,Pt b9),(8,I e.2.2.2.2),(9,I (e.2.2.2.1.length:Int)),(44,.eq (.bool j.2.2.2))]) (λQ j=>[.obj c 74 (.agg (.pair (.rep Tl j.1) (.pair (I j.2.1) (.eq (.int .u64 j.2.2.1))))),.obj b1 25 (.agg (.pair (I 0) (.pair (I 0) (.pair (I 0) (.pair (I 0) (.pair (.eq (.slice none 0 0)) (.eq (.slice none 0 0)))))))),.obj b9 25 (.agg (.pair (I r2.1) (.pair (I r4.1) (.pair (I r6.1) (.pair (I r8.1) (.pair (.eq u) (.eq (.slice none 0 0)))))))),.sl u 36 (.slice Tl) e.2.2.2.1]) h (λK h=>?_) (λQ j h=>?_)
    .refine ab (mq ?_);refine jb (iD rfl) ?_;refine mq ?_;refine bX (s:=41) rfl (λhb=>?_) (λhb=>?_)
     .replace h:=dU (uA hb) h;refine gm ?_;obtain⟨E,qt,h⟩:=aa h;refine fr 2 ?_;refine eL rfl rfl rfl rfl rfl rfl (av [.tmp 42,.const (.int .i64 (3))] rfl rfl Lr rfl (io k (e.1,e.2.1,e.2.2.1) c 3 E qt)) ⟨rfl,rfl,trivial⟩ ?_;refine pt (nl ?_);exact jz ((),(E.2.1,E.2.2.1,E.2.2.2,E.1)) h [0,3,2,1]
     .replace h:=cG (uB hb) h;iterate 2 refine gn ?_
      refine pf (nl ?_);exact jz ((),(e.1,e.2.1,e.2.2.1,false)) h [2,3,1,0]
    .refine cv h (λh=>?_) (λh=>?_)
     .refine aj (bN ?_);refine da (au rfl bS) ?_;refine ea 2 (ap rfl eH jN rfl) ?_;refine da (au rfl bS) ?_;refine ea 2 (ap rfl eH jN rfl) ?_;refine dm ?_;obtain⟨Vb,X,h⟩:=aa h;refine db (ek rfl X) ?_;obtain⟨Va,M,h⟩:=aa h;refine eb 3 (cH (t:=(.slice Tl)) rfl oy jJ M) ?_;refine ea 3 (gA (i:=Int.toNat Vb) (off:=0) rfl jJ (λ_=>rfl) rfl (dF M).2.2 rfl) ?_;obtain⟨O,mw,h⟩:=aa h;refine da (sC (av [.tmp 52] rfl rfl OZ rfl (jX k Va O mw))) ?_;refine da (aW (t:=(.slice Tl)) [(.tmp 53,_)] [O] rfl rfl uO (.cons rfl .rep .nil) rfl rfl) ?_;refine df cS ?_;obtain⟨Vv,gw,h⟩:=aa h;refine fr 3 ?_;refine cR rfl rfl rfl (bu rfl rfl uO (ao gw)) ⟨rfl,rfl,trivial⟩ λVf=>?_;refine fl bS ?_;refine mg λo25=>?_;refine fr 3 ?_;refine aM rfl rfl (aK rfl eH o25 rfl rfl) ⟨rfl,rfl,trivial⟩ ?_;refine nt (fq (bL (c6 (ax ?_))));exact jz (Vf,(j.1,j.2.1,j.2.2.1,e.2.2.2.1++[O])) h [2,3,0,1]
     .refine sk (bN ?_);refine da (au rfl bS) ?_;refine ea 2 (ap rfl eH jN rfl) ?_;refine dm ?_;refine da (au rfl fy) ?_;refine ea 2 (ap rfl bW jN rfl) ?_;obtain⟨x,mc,h⟩:=aa h;refine EC 0 rfl rfl rfl rfl (av [.tmp 59,.tmp 61] rfl rfl RB rfl (vm k (j.1,j.2.1,j.2.2.1) c r2.1 x mc)) ⟨rfl,rfl,trivial⟩ ?_;refine da (aW (t:=(.slice Tl)) [(.tmp 62,_)] [x.1] rfl rfl uO (.cons rfl .rep .nil) rfl rfl) ?_;refine ED (Δ':=[.obj b1 25 (.agg (.pair (I 0) (.pair (I 0) (.pair (I 0) (.pair (I 0) (.pair (.eq (.slice none 0 0)) (.eq (.slice none 0 0)))))))),.obj b9 25 (.agg (.pair (I r2.1) (.pair (I r4.1) (.pair (I r6.1) (.pair (I r8.1) (.pair (.eq u) (.eq (.slice none 0 0)))))))),.sl u 36 (.slice Tl) e.2.2.2.1,.obj c 74 (.agg (.pair (.rep Tl x.2.1) (.pair (I x.2.2.1) (.eq (.int .u64 x.2.2.2)))))]) (by kernel_rfl) cS (by kernel_rfl) ?_;obtain⟨Vu,Y,h⟩:=aa h;refine fr 2 ?_;refine cR rfl rfl rfl (bu rfl rfl uO (ao Y)) ⟨rfl,rfl,trivial⟩ λVe=>?_;refine fl bS ?_;refine mg λo29=>?_;refine fr 2 ?_;refine aM rfl rfl (aK rfl eH o29 rfl rfl) ⟨rfl,rfl,trivial⟩ ?_;refine aG (bn ?_);exact jz (Ve,(x.2.1,x.2.2.1,x.2.2.2,e.2.2.2.1++[x.1])) h [3,2,0,1]
   .refine ab (mq ?_);obtain⟨U8,U,h⟩:=aa h;refine jb (ek rfl U) ?_;refine aq (nl ?_);exact jz (D,(l.1,l.2.1,l.2.2.1,l.2.2.2,U8)) h [0,1,2,3]
  .refine xa ?_;exact jz (u,(e.2.2.2.1,e.1,e.2.1,e.2.2.1)) h [1,2,3,0]
 .
  refine sr (fr 1 ?_);refine fr 2 ?_;refine ee (ic (off:=4) [] trivial rfl rfl) ?_;refine lo dk ?_;refine fr 1 ?_;refine aM rfl rfl (aK rfl dk trivial rfl rfl) ⟨rfl,rfl,trivial⟩ ?_;refine nt (aC (bM (SE.fin (Γ':=[(6,_)]) [2,0,1] ⟨rfl,trivial⟩ rfl) ?_));cases h;exact aP () [.agg (.pair (I r2.1) (.pair (I r4.1) (.pair (I r6.1) (.pair (I r8.1) (.pair (.rep (.slice (.slice Tl)) y.1) (.eq (.slice none 0 0)))))))] 1 ⟨⟨_,_,_,_,_,rfl,(.tail _ (.head _)),dk,(qe),rfl⟩,trivial⟩ rfl
def eG(k:Nat)(r2:ae×bK):Nat->((List Int)×Int×Int×(List aQ)×Int)->Option ((List aQ)×(List Int)×Int×Int)
 |0,_=>none
 |n+1,y7=>
  if 0 < y7.2.2.2.2 then((iJ k (y7.1,y7.2.1,y7.2.2.1) (r2.1.1,r2.1.2.1,r2.1.2.2.1,r2.1.2.2.2.1,r2.1.2.2.2.2.1,())).bind λr9=>
  (cf (bA (length y7.2.2.2.1+length [r9.1]))).bind λ_=>
  (ck (y7.2.2.2.2 - 1)).bind λc=>
  eG k r2 n (r9.2.1,r9.2.2.1,r9.2.2.2,y7.2.2.2.1++[r9.1],c)) else(some (y7.2.2.2.1,y7.1,y7.2.1,y7.2.2.1))
def iI(k:Nat)(a0:bK)(a1:Int)(a2:Int):Option (ae×bK):=
 (kA k (a0.1,a0.2.1,a0.2.2) a1 a2).bind λr2=>
 (((cF k (r2.2.1,r2.2.2.1,r2.2.2.2) 4).bind λr6=>
 eG k r2 k (r6.2.1,r6.2.2.1,r6.2.2.2,([]:(List aQ)),r6.1)):Option ((List aQ)×(List Int)×Int×Int)).bind λx4=>
 some ((r2.1.1,r2.1.2.1,r2.1.2.2.1,r2.1.2.2.2.1,r2.1.2.2.2.2.1,x4.1),(x4.2.1,x4.2.2.1,x4.2.2.2))
theorem ti(k:Nat)(a0:bK)(c:Nat)(a1:Int)(a2:Int)(r:ae×bK)(h:iI k a0 a1 a2=some r):
 cV Tryz.prog 33 [Pt c,I a1,I a2] [.obj c 74 (.agg (.pair (.rep Tl a0.1) (.pair (I a0.2.1) (.eq (.int .u64 a0.2.2)))))] (λ_:Unit=>(bF [.rep am r.1],[.obj c 74 (.agg (.pair (.rep Tl r.2.1) (.pair (I r.2.2.1) (.eq (.int .u64 r.2.2.2)))))])):=by
 unfold iI at h
 replace h:=ba h
 refine cV.of 28 Tryz.func33 rfl Tryz.ntmps33 rfl λS w0=>?_
 refine sr ?_
 refine aZ rfl rfl rfl (bp rfl t8 wH) trivial λb1=>?_
 refine nt ?_
 refine sr ?_
 iterate 3 refine mq ?_
 obtain⟨r2,D,h⟩:=aa h
 have E:=vo k (a0.1,a0.2.1,a0.2.2) c a1 a2 r2 D
 refine fr 1 ?_
 refine kc (av [.tmp 9,.tmp 10,.tmp 11] rfl rfl TY rfl E) ?_
 refine aZ rfl rfl rfl (bp rfl t8 wH) trivial λb3=>?_
 refine aM rfl rfl (aK rfl dk trivial rfl rfl) ⟨rfl,rfl,trivial⟩ ?_
 refine nt ?_
 refine aF (Z:=Value) (α:=(List aQ)×(List Int)×Int×Int) (λz5 x4=>[(6,Pt b1),(7,Pt b3)]) (λz5 x4=>[.obj b1 25 (.agg (.pair (I 0) (.pair (I 0) (.pair (I 0) (.pair (I 0) (.pair (.eq (.slice none 0 0)) (.eq (.slice none 0 0)))))))),.obj b3 25 (.agg (.pair (I r2.1.1) (.pair (I r2.1.2.1) (.pair (I r2.1.2.2.1) (.pair (I r2.1.2.2.2.1) (.pair (.rep (.slice (.slice Tl)) r2.1.2.2.2.2.1) (.eq z5))))))),.sl z5 27 aJ x4.1,.obj c 74 (.agg (.pair (.rep Tl x4.2.1) (.pair (I x4.2.2.1) (.eq (.int .u64 x4.2.2.2)))))]) h (λK h=>?_) (λz5 x4 h=>?_)
 .
  refine sr (mq ?_);obtain⟨r6,y,h⟩:=aa h;refine fr 1 ?_;refine kb (av [.tmp 13,.const (.int .i64 (4))] rfl rfl wE rfl (cP k (r2.2.1,r2.2.2.1,r2.2.2.2) c 4 r6 y)) ?_;refine aq (nt (ai ?_));refine gu (SE.nil 27 aJ) ?_;refine aD (λz8 y7=>[(0,Pt c),(6,Pt b1),(7,Pt b3),(8,I y7.2.2.2.2)]) (λz8 y7=>[.obj c 74 (.agg (.pair (.rep Tl y7.1) (.pair (I y7.2.1) (.eq (.int .u64 y7.2.2.1))))),.obj b1 25 (.agg (.pair (I 0) (.pair (I 0) (.pair (I 0) (.pair (I 0) (.pair (.eq (.slice none 0 0)) (.eq (.slice none 0 0)))))))),.obj b3 25 (.agg (.pair (I r2.1.1) (.pair (I r2.1.2.1) (.pair (I r2.1.2.2.1) (.pair (I r2.1.2.2.2.1) (.pair (.rep (.slice (.slice Tl)) r2.1.2.2.2.2.1) (.eq z8))))))),.sl z8 27 aJ y7.2.2.2.1]) (eG k r2) k (.slice none 0 0) (r6.2.1,r6.2.2.1,r6.2.2.2,([]:(List aQ)),r6.1) (λ_=>rfl) h (SE.fin [1,3,2,0] ⟨rfl,rfl,rfl,rfl,trivial⟩ rfl) (λn z8 y7 h=>?_);unfold eG at h;refine aj (sr (mq ?_));refine jb (iD rfl) ?_;refine nt (ci h (λh=>?_) (λh=>?_))
  .refine sk (aj (ai (bN ?_)));refine da (au rfl fK) ?_;refine ea 2 (ap rfl nh jN rfl) ?_;refine dm ?_;refine ea 2 (ap rfl dk (qe) rfl) ?_;obtain⟨r9,u,h⟩:=aa h;refine EC 0 rfl rfl rfl rfl (cz (N:=[(.tmp 21,Pt c),(.tmp 22,.agg (.pair (I r2.1.1) (.pair (I r2.1.2.1) (.pair (I r2.1.2.2.1) (.pair (I r2.1.2.2.2.1) (.pair (.rep (.slice (.slice Tl)) r2.1.2.2.2.2.1) (.eq z8)))))))]) (av [.tmp 21,.tmp 22] rfl rfl TX rfl (tj k (y7.1,y7.2.1,y7.2.2.1) c (r2.1.1,r2.1.2.1,r2.1.2.2.1,r2.1.2.2.2.1,r2.1.2.2.2.2.1,()) r9 u)) λ_ _ _ hn=>⟨hn.1,(L0 (t:=(.pair Ti (.pair Ti (.pair Ti (.pair Ti (.pair (.slice (.slice Tl)) .ign)))))) (x:=(r2.1.1,r2.1.2.1,r2.1.2.2.1,r2.1.2.2.2.1,r2.1.2.2.2.2.1,())) (pz (jH .int) (pz (jH .int) (pz (jH .int) (pz (jH .int) (pz (jH .rep) MQ))))) hn.2.1),trivial⟩) ⟨rfl,rfl,trivial⟩ ?_;refine da (aW (t:=aJ) [(.tmp 23,_)] [r9.1] rfl rfl wj (.cons rfl .rep .nil) rfl rfl) ?_;refine ED (Δ':=[.obj b1 25 (.agg (.pair (I 0) (.pair (I 0) (.pair (I 0) (.pair (I 0) (.pair (.eq (.slice none 0 0)) (.eq (.slice none 0 0)))))))),.obj b3 25 (.agg (.pair (I r2.1.1) (.pair (I r2.1.2.1) (.pair (I r2.1.2.2.1) (.pair (I r2.1.2.2.2.1) (.pair (.rep (.slice (.slice Tl)) r2.1.2.2.2.2.1) (.eq z8))))))),.sl z8 27 aJ y7.2.2.2.1,.obj c 74 (.agg (.pair (.rep Tl r9.2.1) (.pair (I r9.2.2.1) (.eq (.int .u64 r9.2.2.2)))))]) (by kernel_rfl) cS (by kernel_rfl) ?_;obtain⟨F,j,h⟩:=aa h;refine fr 2 ?_;refine cR rfl rfl rfl (bu rfl rfl wj (ao j)) ⟨rfl,rfl,trivial⟩ λs=>?_;refine fl fK ?_;refine mg λo12=>?_;refine fr 2 ?_;refine aM rfl rfl (aK rfl nh o12 rfl rfl) ⟨rfl,rfl,trivial⟩ ?_;refine aG (aI (tn (ab (mq ?_))));obtain⟨l,e,h⟩:=aa h;refine jb (ek rfl e) ?_;refine aq (nl ?_);exact jz (s,(r9.2.1,r9.2.2.1,r9.2.2.2,y7.2.2.2.1++[r9.1],l)) h [3,2,0,1]
  .refine xa ?_;exact jz (z8,(y7.2.2.2.1,y7.1,y7.2.1,y7.2.2.1)) h [1,2,3,0]
 .
  refine sr (fr 1 ?_);refine fr 2 ?_;refine ee (ic (off:=5) [] trivial rfl rfl) ?_;refine lo dk ?_;refine fr 1 ?_;refine aM rfl rfl (aK rfl dk trivial rfl rfl) ⟨rfl,rfl,trivial⟩ ?_;refine nt (aC (bM (gf (a:=.agg (.pair (I r2.1.1) (.pair (I r2.1.2.1) (.pair (I r2.1.2.2.1) (.pair (I r2.1.2.2.2.1) (.pair (.rep (.slice (.slice Tl)) r2.1.2.2.2.2.1) (Rs aJ x4.1))))))) (a':=.rep am (r2.1.1,r2.1.2.1,r2.1.2.2.1,r2.1.2.2.2.1,r2.1.2.2.2.2.1,x4.1)) (jH (.agg (.pair .int (.pair .int (.pair .int (.pair .int (.pair .rep .rep)))))))) ?_));refine bM (SE.fin (Γ':=[(6,_)]) [2,0,1] ⟨rfl,trivial⟩ rfl) ?_;cases h;exact aP () [.rep am (r2.1.1,r2.1.2.1,r2.1.2.2.1,r2.1.2.2.2.1,r2.1.2.2.2.2.1,x4.1)] 1 ⟨⟨_,_,_,_,_,rfl,(.tail _ (.head _)),dk,(qe),rfl⟩,trivial⟩ rfl
def ji(k:Nat)(a0:ae)(a1:aQ)(a2:bK):Option ((List ae)×bK):=
 (iI k (a2.1,a2.2.1,a2.2.2) 4 4).bind λr3=>
 (eD k r3.1).bind λr5=>
 (cf (bA (length r5.2.2.2.2.2+length [a1]))).bind λ_=>
 some ([a0,r3.1,(r5.1,r5.2.1,r5.2.2.1,r5.2.2.2.1,r5.2.2.2.2.1,r5.2.2.2.2.2++[a1])],(r3.2.1,r3.2.2.1,r3.2.2.2))
theorem vl(k:Nat)(a0:ae)(a1:aQ)(a2:bK)(c:Nat)(r:(List ae)×bK)(h:ji k a0 a1 a2=some r):
 cV Tryz.prog 13 [.rep am a0,.rep aJ a1,Pt c] [.obj c 74 (.agg (.pair (.rep Tl a2.1) (.pair (I a2.2.1) (.eq (.int .u64 a2.2.2)))))] (λ_:Unit=>(bF [Rs am r.1],[.obj c 74 (.agg (.pair (.rep Tl r.2.1) (.pair (I r.2.2.1) (.eq (.int .u64 r.2.2.2)))))])):=by
 unfold ji at h
 replace h:=ba h
 refine cV.of 23 Tryz.func13 rfl Tryz.ntmps13 rfl λS w0=>?_
 refine sr ?_
 refine bx λb1=>?_
 refine bx λb2=>?_
 refine cq ?_
 refine nt ?_
 refine sr ?_
 refine mq ?_
 obtain⟨r3,l,h⟩:=aa h
 have s:=ti k (a2.1,a2.2.1,a2.2.2) c 4 4 r3 l
 refine fr 2 ?_
 refine kc (av [.tmp 9,.const (.int .i64 (4)),.const (.int .i64 (4))] rfl rfl Uj rfl s) ?_
 refine aZ rfl rfl rfl (bp rfl t8 wH) trivial λb4=>?_
 refine aM rfl rfl (aK rfl dk rfl rfl rfl) ⟨rfl,rfl,trivial⟩ ?_
 refine nt ?_
 refine sr ?_
 refine lo dk ?_
 obtain⟨r5,j,h⟩:=aa h
 have n:=tl k r3.1 r5 j
 refine aZ rfl rfl rfl (av [.tmp 11] rfl rfl Rn rfl n) ⟨rfl,trivial⟩ λv6=>?_
 refine aZ rfl rfl rfl (bp rfl t8 wH) trivial λb7=>?_
 refine aM rfl rfl (aK rfl dk trivial rfl rfl) ⟨rfl,rfl,trivial⟩ ?_
 refine nt ?_
 refine sr ?_
 refine fl fK ?_
 refine lo nh ?_
 refine fr 4 ?_
 refine lo nI ?_
 refine ja (aW (t:=aJ) [(.tmp 15,_)] [a1] rfl rfl wj (.cons rfl .rep .nil) rfl rfl) ?_
 obtain⟨u8,e,h⟩:=aa h
 refine fr 2 ?_
 refine cR rfl rfl rfl (bu rfl rfl wj (ao e)) ⟨rfl,rfl,trivial⟩ λv9=>?_
 refine fl fK ?_
 refine mg λo10=>?_
 refine fr 2 ?_
 refine aM rfl rfl (aK rfl nh o10 rfl rfl) ⟨rfl,rfl,trivial⟩ ?_
 refine nt ?_
 refine sr ?_
 refine fr 5 ?_
 refine lo dk ?_
 refine fr 4 ?_
 refine lo dk ?_
 refine fr 2 ?_
 refine fr 3 ?_
 refine ee (ic (off:=5) [17] ⟨rfl,trivial⟩ rfl rfl) ?_
 refine lo dk ?_
 refine jc (aW (t:=am) [(.tmp 19,_),(.tmp 20,_),(.tmp 21,_)] [a0,r3.1,(r5.1,r5.2.1,r5.2.2.1,r5.2.2.2.1,r5.2.2.2.2.1,r5.2.2.2.2.2++[a1])] rfl rfl SS (.cons rfl .rep (.cons rfl .rep (.cons trivial (.agg (.pair .int (.pair .int (.pair .int (.pair .int (.pair .rep .rep)))))) .nil))) rfl rfl) ?_
 refine aq ?_
 refine nt ?_
 refine aC ?_
 refine bM (SE.fin (Γ':=[(6,_)]) [4,0,1,2,3] ⟨rfl,trivial⟩ rfl) ?_
 cases h
 exact aP () [_] 1 ⟨rfl,trivial⟩ rfl
def cZ(k:Nat)(a2:(List Int))(r9:(List ae)×bK)(e:(List Int)×bK):Nat->Int->Option (Except Bool Unit)
 |0,_=>none
 |n+1,c=>
  if c < (r9.1.length:Int) then((aH r9.1 c).bind λJ=>
  (eD k J).bind λh=>
  (aH [a2,e.1,a2] c).bind λI=>
  (ip k I).bind λr=>
  (jU k h r).bind λl=>
  (aH r9.1 c).bind λF=>
  (aH [a2,e.1,a2] c).bind λE=>
  (lQ k F E).bind λj=>
  (((lD k h).bind λX=>
  (aH r9.1 c).bind λy=>
  (lA k y).bind λU=>
  if¬(X=U) then(some true) else(if¬(l.2=j.2) then(some true) else((dT k l.1 j.1).bind λQ=>
  if¬(Q=true) then(some true) else((aH r9.1 c).bind λx=>
  (iG k h x).bind λO=>
  if¬(O=true) then(some true) else((aH [a2,e.1,a2] c).bind λu=>
  (fo k r u).bind λM=>
  some (!M)))))):Option (Bool)).bind λD=>
  if D=true then(some (.error false)) else((ck (c+1)).bind λs=>
  cZ k a2 r9 e n s)) else(some (.ok ()))
def iV(k:Nat)(a0:ae)(a1:aQ)(a2:(List Int))(a3:(List Int)):Option Bool:=
 (((o8 k a0).bind λr5=>
 if r5=true then(some true) else(some (decide (20 < (a2.length:Int))))):Option (Bool)).bind λx3=>
 if x3=true then((o9 k).bind λr6=>
 some r6) else((mO k a3).bind λr7=>
 (ji k a0 a1 (r7.1,r7.2.1,r7.2.2)).bind λr9=>
 (aH r9.1 1).bind λc=>
 (kB k (r9.2.1,r9.2.2.1,r9.2.2.2) c.1).bind λh=>
 bE (α:=Unit) (cZ k a2 r9 h k 0) (some) λ_=>
 (o9 k).bind λe=>
 some e)
theorem qS(k:Nat)(a0:ae)(a1:aQ)(a2:(List Int))(a3:(List Int))(r:Bool)(h:iV k a0 a1 a2 a3=some r):
 cC (ec Tryz.prog) 3 [.rep am a0,.rep aJ a1,.rep Tl a2,.rep Tl a3] [] (λ_:Unit=>(bF [.eq (.bool r)],[])):=by
 unfold iV at h
 replace h:=ba h
 refine cC.of 114 Tryz.func3 rfl Tryz.ntmps3 rfl λS w0=>?_
 refine sr ?_
 refine bx λb1=>?_
 refine bx λb2=>?_
 refine cq ?_
 refine nt ?_
 refine aj ?_
 refine aF (Z:=Unit) (α:=Bool) (λz4 x3=>[(2,.rep Tl a2),(3,.rep Tl a3),(4,Pt b1),(5,Pt b2),(25,.eq (.bool x3))]) (λz4 x3=>[.obj b1 25 (.rep am a0),.obj b2 27 (.rep aJ a1)]) h (λK h=>?_) (λz4 x3 h=>?_)
 .
  refine ab (fr 1 ?_);refine lo dk ?_;obtain⟨r5,VP,h⟩:=aa h;refine ja (av [.tmp 19] rfl rfl Us rfl (Ah k a0 r5 VP)) ?_;refine mq ?_;refine bX (s:=21) rfl (λhb=>?_) (λhb=>?_)
  .replace h:=dU (M4 hb) h;iterate 3 refine gn ?_
   refine pt (nl ?_);exact jz ((),true) h [0,1]
  .replace h:=cG (M6 hb) h;refine gm ?_;refine ga (od rfl rfl gG) ?_;refine gb (iD rfl) ?_;refine pf (nl ?_);exact jz ((),decide (20 < (a2.length:Int))) h [0,1]
 .
  refine cv h (λh=>?_) (λh=>?_)
  .refine sr ?_;obtain⟨r6,VO,h⟩:=aa h;refine co rfl (bo [] rfl rfl Ru rfl (tY k r6 VO)) trivial ?_;refine aq (nt (rx ?_));cases h;exact ra
  .refine sk (sr (mq ?_));obtain⟨r7,VN,h⟩:=aa h;refine aZ rfl rfl rfl (av [.tmp 27] rfl rfl Ur rfl (vn k a3 r7 VN)) ⟨rfl,trivial⟩ λb8=>?_;refine aq (nt (sr ?_));refine fr 1 ?_;refine lo dk ?_;refine fr 2 ?_;refine lo nI ?_;refine mq ?_;obtain⟨r9,VM,h⟩:=aa h;refine fr 2 ?_;refine kc (av [.tmp 29,.tmp 30,.tmp 31] rfl rfl Up rfl (vl k a0 a1 (r7.1,r7.2.1,r7.2.2) b8 r9 VM)) ?_;refine aq (nt (sr ?_));iterate 3 refine mq ?_
   obtain⟨Vx,Vb,h⟩:=aa h;refine jb (aE (t:=am) rfl P0 dk Vb) ?_;refine ja (BM 1 false rfl fy rfl) ?_;refine ja (an (t:=Ti) rfl bW rfl) ?_;obtain⟨c,Vo,h⟩:=aa h;refine kb (av [.tmp 34,.tmp 38] rfl rfl Uo rfl (vp k (r9.2.1,r9.2.2.1,r9.2.2.2) b8 Vx.1 c Vo)) ?_;refine mq ?_;refine jc (aW (t:=Tl) [(.tmp 33,_),(.tmp 39,_),(.tmp 40,_)] [a2,c.1,a2] rfl rfl nm (.cons rfl .rep (.cons rfl .rep (.cons rfl .rep .nil))) rfl rfl) ?_;refine aq (nt ?_);refine cO (Z:=Unit) (α:=Unit) (λF J=>[]) (λF J=>[]) (λe=>e=r) h (λe h=>Option.some.inj h) (λK hR h=>?_) (λF J h=>?_)
   .refine sr (cq (nt (ai ?_)));refine aD (λE j=>[(10,Rs am r9.1),(11,.rep (.slice Tl) [a2,c.1,a2]),(12,I j)]) (λE j=>[]) (cZ k a2 r9 c) k () 0 (λ_=>rfl) h (SE.fin [] ⟨rfl,rfl,rfl,trivial⟩ rfl) (λn E j h=>?_);unfold cZ at h;refine aj (sr ?_);iterate 2 refine mq ?_
    refine ol P0 ?_;refine jb (bq rfl) ?_;refine nt (ci h (λh=>?_) (λh=>?_))
    .refine sk (aj (ai (aj (px ?_))));refine bD rfl rfl rfl (aO rfl) ⟨rfl,trivial⟩ ?_;refine bD rfl rfl rfl (aO rfl) ⟨rfl,trivial⟩ ?_;obtain⟨Vw,Va,h⟩:=aa h;refine bD rfl rfl rfl (aE (t:=am) rfl P0 dk Va) ⟨rfl,rfl,trivial⟩ ?_;refine bD rfl rfl rfl (an (t:=am) rfl dk rfl) ⟨rfl,trivial⟩ ?_;obtain⟨l,Vn,h⟩:=aa h;refine bD rfl rfl rfl (av [.tmp 51] rfl rfl Rn rfl (sb k Vw l Vn)) ⟨rfl,trivial⟩ ?_;refine bD rfl rfl rfl (aO rfl) ⟨rfl,trivial⟩ ?_;refine bD rfl rfl rfl (aO rfl) ⟨rfl,trivial⟩ ?_;obtain⟨Vv,U8,h⟩:=aa h;refine bD rfl rfl rfl (aE (t:=Tl) rfl pY fC U8) ⟨rfl,rfl,trivial⟩ ?_;refine bD rfl rfl rfl (an (t:=Tl) rfl fC rfl) ⟨rfl,trivial⟩ ?_;obtain⟨u,Vm,h⟩:=aa h;refine bD rfl rfl rfl (sC (av [.tmp 56] rfl rfl Rh rfl (om k Vv u Vm))) ⟨rfl,trivial⟩ ?_;refine Ew (J7 25 (.agg (.pair (I 0) (.pair (I 0) (.pair (I 0) (.pair (I 0) (.pair (.eq (.slice none 0 0)) (.eq (.slice none 0 0))))))))) (λ_=>rfl) rfl rfl rfl (bp rfl t8 wH) trivial ?_;refine tO 11 [true,true,true,true,true,true,true,true,true,true,true] [14] [] [] rfl (by kernel_rfl) (by kernel_rfl) (by kernel_rfl) cS (λvs hv hB=>?_);obtain⟨w0,V4,rfl,VL⟩:=aA hv;obtain⟨w1,V3,rfl,VK⟩:=aA VL;obtain⟨w2,V2,rfl,VJ⟩:=aA VK;obtain⟨w3,V0,rfl,VI⟩:=aA VJ;obtain⟨w4,VZ,rfl,VH⟩:=aA VI;obtain⟨w5,VY,rfl,VG⟩:=aA VH;obtain⟨w6,VX,rfl,VF⟩:=aA VG;obtain⟨w7,VV,rfl,VE⟩:=aA VF;obtain⟨w8,VU,rfl,VD⟩:=aA VE;obtain⟨w9,VS,rfl,X⟩:=aA VD;obtain⟨VT,VQ,rfl,U⟩:=aA X;obtain rfl:=pL U;obtain⟨y,rfl⟩:=Hg hB.2.2.2.2.2.2.2.2.2.2.1;refine⟨[0],[.obj y 25 (.agg (.pair (I 0) (.pair (I 0) (.pair (I 0) (.pair (I 0) (.pair (.eq (.slice none 0 0)) (.eq (.slice none 0 0))))))))],by kernel_rfl,by decide,?_⟩;refine rj rfl rfl (aK rfl dk rfl rfl rfl) ⟨rfl,rfl,trivial⟩ (by kernel_rfl) ?_;refine PE rfl rfl rfl rfl (nq rfl) ⟨rfl,trivial⟩ (by kernel_rfl) ?_;refine vQ ?_;refine bM (SE.fin (Γ':=[(10,Rs am r9.1),(11,.rep (.slice Tl) [a2,c.1,a2]),(12,I j),(13,Pt y),(14,.rep Tl u)]) (Δ':=[.obj y 25 (.rep am l)]) [0] ⟨rfl,rfl,rfl,rfl,rfl,trivial⟩ rfl) ?_;refine tn (sr (lo dk ?_));refine mq ?_;obtain⟨Q,Vl,h⟩:=aa h;refine jb (bo [.tmp 59,.tmp 60] rfl rfl Rb rfl (ql k l u Q Vl)) ?_;refine mq ?_;refine xr ?_;refine xr ?_;refine aq ?_;refine aq (nt (aj ?_));refine bN ?_;refine dm ?_;refine dm ?_;obtain⟨Vu,zz,h⟩:=aa h;refine db (aE (t:=am) rfl P0 dk zz) ?_;refine da (an (t:=am) rfl dk rfl) ?_;refine dm ?_;refine dm ?_;obtain⟨Vt,qt,h⟩:=aa h;refine db (aE (t:=Tl) rfl pY fC qt) ?_;refine da (an (t:=Tl) rfl fC rfl) ?_;obtain⟨O,Vk,h⟩:=aa h;refine db (av [.tmp 68,.tmp 72] rfl rfl Un rfl (wl k Vu Vt O Vk)) ?_;refine dm ?_;refine da (jS rfl rfl) ?_;refine da (jS rfl rfl) ?_;refine da (nq rfl) ?_;refine df cS ?_;refine aq (nt ?_);refine aF (Z:=Unit) (α:=Bool) (λD x=>[(10,Rs am r9.1),(11,.rep (.slice Tl) [a2,c.1,a2]),(12,I j),(112,.eq (.bool x))]) (λD x=>[]) h (λK h=>?_) (λD x h=>?_)
     .refine bN ?_;refine ea 0 (ap rfl dk (qe) rfl) ?_;obtain⟨VC,Vj,h⟩:=aa h;refine da (av [.tmp 76] rfl rfl Q9 rfl (rY k l VC Vj)) ?_;refine dm ?_;refine dm ?_;obtain⟨Vs,mw,h⟩:=aa h;refine db (aE (t:=am) rfl P0 dk mw) ?_;refine da (an (t:=am) rfl dk rfl) ?_;obtain⟨VB,Vi,h⟩:=aa h;refine da (av [.tmp 81] rfl rfl Q8 rfl (rI k Vs VB Vi)) ?_;refine db (d4 rfl) ?_;refine lx rfl rfl rfl (aO rfl) ⟨rfl,trivial⟩ (λhb=>?_) (λhb=>?_)
      .replace h:=dU (Ni hb) h;iterate 3 refine dg ?_
       refine db (lS rfl) ?_;refine dm ?_;iterate 4 refine dg ?_
       refine db (lS rfl) ?_;refine dm ?_;iterate 7 refine dg ?_
       refine db (lS rfl) ?_;refine dm ?_;iterate 5 refine dg ?_
       refine df cS ?_;iterate 2 refine gn ?_
       refine pt (nl ?_);exact jz ((),true) h []
      .replace h:=cG (zW hb) h;refine bg rfl rfl rfl rfl rfl (aO rfl) ⟨rfl,rfl,trivial⟩ ?_;refine bg rfl rfl rfl rfl rfl (aO rfl) ⟨rfl,rfl,trivial⟩ ?_;refine bg rfl rfl rfl rfl rfl (d4 rfl) ⟨rfl,rfl,rfl,trivial⟩ ?_;refine db (rN rfl) ?_;refine lx rfl rfl rfl (aO rfl) ⟨rfl,trivial⟩ (λhb=>?_) (λhb=>?_)
       .replace h:=dU (Ni hb) h;iterate 4 refine dg ?_
        refine db (lS rfl) ?_;refine dm ?_;iterate 7 refine dg ?_
        refine db (lS rfl) ?_;refine dm ?_;iterate 5 refine dg ?_
        refine df cS ?_;iterate 2 refine gn ?_
        refine pt (nl ?_);exact jz ((),true) h []
       .replace h:=cG (zW hb) h;refine bg rfl rfl rfl rfl rfl (aO rfl) ⟨rfl,rfl,trivial⟩ ?_;refine bg rfl rfl rfl rfl rfl (aO rfl) ⟨rfl,rfl,trivial⟩ ?_;obtain⟨VA,Vh,h⟩:=aa h;refine bg rfl rfl rfl rfl rfl (av [.tmp 90,.tmp 91] rfl rfl Lt rfl (im k Q.1 O.1 VA Vh)) ⟨rfl,rfl,rfl,trivial⟩ ?_;refine bg rfl rfl rfl rfl rfl (eI rfl) ⟨rfl,rfl,trivial⟩ ?_;refine db (rN rfl) ?_;refine lx rfl rfl rfl (aO rfl) ⟨rfl,trivial⟩ (λhb=>?_) (λhb=>?_)
        .replace h:=dU (rQ hb) h;iterate 7 refine dg ?_
         refine db (lS rfl) ?_;refine dm ?_;iterate 5 refine dg ?_
         refine df cS ?_;iterate 2 refine gn ?_
         refine pt (nl ?_);exact jz ((),true) h []
        .replace h:=cG (mF hb) h;refine iZ 0 rfl rfl rfl rfl rfl rfl (ap rfl dk (qe) rfl) ⟨rfl,rfl,trivial⟩ ?_;refine bg rfl rfl rfl rfl rfl (aO rfl) ⟨rfl,rfl,trivial⟩ ?_;refine bg rfl rfl rfl rfl rfl (aO rfl) ⟨rfl,rfl,trivial⟩ ?_;obtain⟨Vr,mc,h⟩:=aa h;refine bg rfl rfl rfl rfl rfl (aE (t:=am) rfl P0 dk mc) ⟨rfl,rfl,rfl,trivial⟩ ?_;refine bg rfl rfl rfl rfl rfl (an (t:=am) rfl dk rfl) ⟨rfl,rfl,trivial⟩ ?_;obtain⟨Vz,Vg,h⟩:=aa h;refine bg rfl rfl rfl rfl rfl (av [.tmp 96,.tmp 100] rfl rfl Um rfl (tf k l Vr Vz Vg)) ⟨rfl,rfl,rfl,trivial⟩ ?_;refine bg rfl rfl rfl rfl rfl (eI rfl) ⟨rfl,rfl,trivial⟩ ?_;refine db (rN rfl) ?_;refine lx rfl rfl rfl (aO rfl) ⟨rfl,trivial⟩ (λhb=>?_) (λhb=>?_)
         .replace h:=dU (rQ hb) h;iterate 5 refine dg ?_
          refine df cS ?_;iterate 2 refine gn ?_
          refine pt (nl ?_);exact jz ((),true) h []
         .replace h:=cG (mF hb) h;refine bg rfl rfl rfl rfl rfl (aO rfl) ⟨rfl,rfl,trivial⟩ ?_;refine bg rfl rfl rfl rfl rfl (aO rfl) ⟨rfl,rfl,trivial⟩ ?_;refine bg rfl rfl rfl rfl rfl (aO rfl) ⟨rfl,rfl,trivial⟩ ?_;obtain⟨Vq,gw,h⟩:=aa h;refine bg rfl rfl rfl rfl rfl (aE (t:=Tl) rfl pY fC gw) ⟨rfl,rfl,rfl,trivial⟩ ?_;refine bg rfl rfl rfl rfl rfl (an (t:=Tl) rfl fC rfl) ⟨rfl,rfl,trivial⟩ ?_;refine df cS ?_;obtain⟨M,Vf,h⟩:=aa h;refine gb (av [.tmp 105,.tmp 109] rfl rfl Ls rfl (iW k u Vq M Vf)) ?_;refine ga (eI rfl) ?_;refine pf (nl ?_);exact jz ((), !M) h []
     .refine cv h (λh=>?_) (λh=>?_)
      .refine sr (cq (nt (aC (br (aX (aY ?_))))));obtain rfl:=hR _ h;exact ra
      .refine bi (aI (tn (ab (mq ?_))));obtain⟨Vp,Y,h⟩:=aa h;refine jb (bj rfl Y) ?_;refine aq (nl ?_);exact jz ((),Vp) h []
    .refine xa ?_;exact jz ((),()) h []
   .refine sr ?_;obtain⟨Vy,Ve,h⟩:=aa h;refine co rfl (bo [] rfl rfl Ru rfl (tY k Vy Ve)) trivial ?_;refine aq (nt (aC ?_));cases h;exact ra
