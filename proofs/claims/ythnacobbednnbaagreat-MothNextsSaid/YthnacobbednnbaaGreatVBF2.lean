import Derived.Test.YthnacobbednnbaaGreatVBB10
open Nat
open List hiding mem_of_getElem?
open Array hiding mem_of_getElem? mk
set_option linter.unusedSimpArgs false
set_option linter.unusedVariables false
set_option maxRecDepth 4000
set_option maxHeartbeats 1000000
namespace Go.Proofs.YthnacobbednnbaaGreat
open K Go Go.Proofs
def fo(k:Nat)(a0:ab)(a1:(List Int)):Nat->(Int×Int)->Option (Except ((Option ab)×Int×Int) Int)
 |0,_=>none
 |n+1,y5=>
  if y5.2 < (a1.length:Int) then((aG a1 y5.2).bind λx7=>
  (ck (a0.1 - 1)).bind λx8=>
  (dT k x7 0 x8).bind λr9=>
  if¬(r9=true) then(some (.error (none,0,3))) else(((if 0 < y5.2 then((ck (y5.2 - 1)).bind λh=>
  (aG a1 h).bind λe=>
  some (decide (x7≤e))) else(some false)):Option (Bool)).bind λj=>
  if j=true then(some (.error (none,0,5))) else((gp k y5.1 x7).bind λl=>
  (ck (y5.2+1)).bind λc=>
  fo k a0 a1 n (l,c)))) else(some (.ok y5.1))
def dN(k:Nat)(a0:ab)(h:Int)(e:(List Int)):Nat->Int->Option (Except ((Option ab)×Int×Int) Unit)
 |0,_=>none
 |n+1,c=>
  if c < (e.length:Int) then((aG e c).bind λu=>
  (ck (a0.1 - 1)).bind λs=>
  (ck ((a0.2.2.2.2.1.length:Int) - 1)).bind λr=>
  (aG [s,r,(a0.2.2.2.2.1.length:Int)] h).bind λl=>
  (dT k u 0 l).bind λx=>
  if¬(x=true) then(some (.error (none,0,3))) else((ck (c+1)).bind λj=>
  dN k a0 h e n j)) else(some (.ok ()))
def cY(k:Nat)(a0:ab)(a2:(List Int))(a3:(List Int))(a4:(List Int)):Nat->Int->Option (Except ((Option ab)×Int×Int) Unit)
 |0,_=>none
 |n+1,c=>
  if c < ([a2,a3,a4].length:Int) then(bE (α:=Unit) ((aG [a2,a3,a4] c).bind λj=>
  dN k a0 c j k 0) (λe=>some (.error e)) λ_=>
  (ck (c+1)).bind λh=>
  cY k a0 a2 a3 a4 n h) else(some (.ok ()))
def kJ(k:Nat)(a0:ab)(a1:(List Int))(a2:(List Int))(a3:(List Int))(a4:(List Int)):Option ((Option ab)×Int×Int):=
 (nE k a0).bind λr2=>
 if¬(r2=0) then(some (none,0,r2)) else(bE (α:=Int) (fo k a0 a1 k (0,0)) (some) λx3=>
 bE (α:=Unit) (cY k a0 a2 a3 a4 k 0) (some) λ_=>
 (jK k a0).bind λe=>
 gY e (none) (λc=>(eM k c).bind λh=>
 some (some c,x3,0)))
theorem mN(k:Nat)(a0:ab)(a1:(List Int))(a2:(List Int))(a3:(List Int))(a4:(List Int))(r:(Option ab)×Int×Int)(h:kJ k a0 a1 a2 a3 a4=some r):
 co (eu Tryz.prog) 48 [.rep am a0,.rep Tl a1,.rep Tl a2,.rep Tl a3,.rep Tl a4] [] (λz:Nat×Nat=>(bC [Lp r.1 z.1,.eq (.int .u8 r.2.1),I r.2.2],Ln r.1 λq=>rG q z.1 z.2 k)):=by
 unfold kJ at h
 replace h:=aX h
 refine co.of 95 Tryz.func48 rfl Tryz.ntmps48 rfl λS w0=>?_
 refine sr ?_
 refine bx λb1=>?_
 refine cq ?_
 refine cq ?_
 refine cq ?_
 refine nt ?_
 refine aj ?_
 refine sr ?_
 refine lo dF ?_
 obtain⟨r2,WC,h⟩:=aa h
 have WE:=yR k a0 r2 WC
 refine ja (ax [.tmp 22] rfl rfl Vp rfl WE) ?_
 refine aq ?_
 refine nt ?_
 refine sr ?_
 refine mq ?_
 refine jb (d5 rfl) ?_
 refine nt ?_
 refine cn h (λh=>?_) (λh=>?_)
 .
  refine sr (mq ?_);refine cq ?_;refine cq ?_;refine aq (nt (rx ?_));cases h;exact aP (0,0) [.eq (.pointer none),_,_] 0 ⟨rfl,rfl,rfl,trivial⟩ rfl
 .
  refine sk (sr (cq (nt ?_)));refine cS (Z:=Unit) (α:=Int) (λz4 x3=>[(2,.rep Tl a2),(3,.rep Tl a3),(4,.rep Tl a4),(5,Pt b1),(14,.eq (.int .u8 x3))]) (λz4 x3=>[.obj b1 25 (.rep am a0)]) (λe=>e=r) h (λe h=>Option.some.inj h) (λK hR h=>?_) (λz4 x3 h=>?_)
  .refine sr (mq ?_);refine ol gA ?_;refine fH rfl ?_;refine nt (ah (aC (λz6 y5=>[(1,.rep Tl a1),(2,.rep Tl a2),(3,.rep Tl a3),(4,.rep Tl a4),(5,Pt b1),(14,.eq (.int .u8 y5.1)),(27,.rep Tl a1),(28,I (a1.length:Int)),(29,I y5.2)]) (λz6 y5=>[.obj b1 25 (.rep am a0)]) (fo k a0 a1) k () (0,0) (λ_=>rfl) h (SE.fin [0] ⟨rfl,rfl,rfl,rfl,rfl,rfl,rfl,rfl,rfl,trivial⟩ rfl) (λn z6 y5 h=>?_)));unfold fo at h;refine sr (jb (bj rfl) ?_);refine nt (aj (ci h (λh=>?_) (λh=>?_)))
   .refine sk (aj (ah (sr (mq ?_))));obtain⟨x7,WA,h⟩:=aa h;refine jb (aD (t:=Ti) rfl gA bQ WA) ?_;refine ja (ao (t:=Ti) rfl bQ rfl) ?_;refine aq ?_;refine aq (nt (aj (sr ?_)));refine mq ?_;refine fl eU ?_;refine lo bQ ?_;obtain⟨x8,Wz,h⟩:=aa h;refine jb (eo rfl Wz) ?_;obtain⟨r9,WB,h⟩:=aa h;refine jc (ax [.tmp 34,.const (.int .i64 (0)),.tmp 37] rfl rfl zi rfl (dX k x7 0 x8 r9 WB)) ?_;refine ja (fh rfl) ?_;refine nt (cw h (λh=>?_) (λh=>?_))
    .refine sr (cq ?_);refine cq ?_;refine cq (nt (rx (br (bb (bg ?_)))));obtain rfl:=hR _ h;exact aP (0,0) [.eq (.pointer none),_,_] 0 ⟨rfl,rfl,rfl,trivial⟩ rfl
    .refine sk (aj (aE (Z:=Unit) (α:=Bool) (λO y=>[(1,.rep Tl a1),(2,.rep Tl a2),(3,.rep Tl a3),(4,.rep Tl a4),(5,Pt b1),(14,.eq (.int .u8 y5.1)),(16,I x7),(27,.rep Tl a1),(28,I (a1.length:Int)),(29,I y5.2),(50,.eq (.bool y))]) (λO y=>[.obj b1 25 (.rep am a0)]) h (λK h=>?_) (λO y h=>?_)))
     .refine ae (mq ?_);refine jb (jm rfl) ?_;refine mq ?_;refine cf (s:=42) rfl (λhb=>?_) (λhb=>?_)
      .replace h:=ee (vM hb) h;refine gm ?_;refine gm ?_;refine gm ?_;obtain⟨WI,Wg,h⟩:=aa h;refine gb (eo rfl Wg) ?_;obtain⟨Wu,We,h⟩:=aa h;refine gb (aD (t:=Ti) rfl gA bQ We) ?_;refine ga (ao (t:=Ti) rfl bQ rfl) ?_;refine gb (AH rfl) ?_;refine pt (nl ?_);exact jz ((),decide (x7≤Wu)) h [0]
      .replace h:=cK (vO hb) h;iterate 7 refine gn ?_
       refine pf (nl ?_);exact jz ((),false) h [0]
     .refine cv h (λh=>?_) (λh=>?_)
      .refine sr (cq ?_);refine cq ?_;refine cq (nt (rx (br (bb (bg ?_)))));obtain rfl:=hR _ h;exact aP (0,0) [.eq (.pointer none),_,_] 0 ⟨rfl,rfl,rfl,trivial⟩ rfl
      .refine sk (ae ?_);iterate 2 refine mq ?_
       obtain⟨Y,Wm,h⟩:=aa h;refine jb (ax [.tmp 51,.tmp 52] rfl rfl P7 rfl (li k y5.1 x7 Y Wm)) ?_;refine aq (aF (aI (tn (ae ?_))));obtain⟨Wt,Wc,h⟩:=aa h;refine jb (be rfl Wc) ?_;refine mq (nl ?_);exact jz ((),(Y,Wt)) h [0]
   .refine xa ?_;exact jz ((),y5.1) h [0]
  .refine cS (Z:=Unit) (α:=Unit) (λM U=>[(5,Pt b1),(14,.eq (.int .u8 x3))]) (λM U=>[.obj b1 25 (.rep am a0)]) (λe=>e=r) h (λe h=>Option.some.inj h) (λK hR h=>?_) (λM U h=>?_)
   .refine sr ?_;iterate 3 refine mq ?_
    refine jc (aV (t:=Tl) [(.tmp 55,_),(.tmp 56,_),(.tmp 57,_)] [a2,a3,a4] rfl rfl lT (.cons rfl .rep (.cons rfl .rep (.cons rfl .rep .nil))) rfl rfl) ?_;refine ol nK ?_;refine fH rfl ?_;refine nt (ah (aC (λJ c=>[(5,Pt b1),(14,.eq (.int .u8 x3)),(58,.rep (.slice Tl) [a2,a3,a4]),(59,I ([a2,a3,a4].length:Int)),(60,I c)]) (λJ c=>[.obj b1 25 (.rep am a0)]) (cY k a0 a2 a3 a4) k () 0 (λ_=>rfl) h (SE.fin [0] ⟨rfl,rfl,rfl,rfl,rfl,trivial⟩ rfl) (λn J c h=>?_)));unfold cY at h;refine sr (jb (bj rfl) ?_);refine nt (aj (ci h (λh=>?_) (λh=>?_)))
    .refine sk (cS (Z:=Unit) (α:=Unit) (λE Q=>[(5,Pt b1),(14,.eq (.int .u8 x3)),(58,.rep (.slice Tl) [a2,a3,a4]),(59,I ([a2,a3,a4].length:Int)),(60,I c)]) (λE Q=>[.obj b1 25 (.rep am a0)]) (λe=>e=r) h (λe h=>hR e h) (λK hR h=>?_) (λE Q h=>?_))
     .refine ah (sr (mq ?_));obtain⟨x,Wb,h⟩:=aa h;refine jb (aD (t:=Tl) rfl nK eT Wb) ?_;refine ja (ao (t:=Tl) rfl eT rfl) ?_;refine aq ?_;refine aq (nt (sr ?_));refine mq ?_;refine ol gA ?_;refine fH rfl ?_;refine nt (ah (aC (λD u=>[(5,Pt b1),(14,.eq (.int .u8 x3)),(17,I c),(58,.rep (.slice Tl) [a2,a3,a4]),(59,I ([a2,a3,a4].length:Int)),(60,I c),(65,.rep Tl x),(66,I (x.length:Int)),(67,I u)]) (λD u=>[.obj b1 25 (.rep am a0)]) (dN k a0 c x) k () 0 (λ_=>rfl) h (SE.fin [0] ⟨rfl,rfl,rfl,rfl,rfl,rfl,rfl,rfl,rfl,trivial⟩ rfl) (λn D u h=>?_)));unfold dN at h;refine sr (jb (bj rfl) ?_);refine nt (aj (ci h (λh=>?_) (λh=>?_)))
      .refine sk (aj (ah (sr ?_)));obtain⟨Ws,Wa,h⟩:=aa h;refine jb (aD (t:=Ti) rfl gA bQ Wa) ?_;refine ja (ao (t:=Ti) rfl bQ rfl) ?_;refine aq (nt (sr ?_));refine mq ?_;refine fl eU ?_;refine lo bQ ?_;obtain⟨WH,zz,h⟩:=aa h;refine jb (eo rfl zz) ?_;refine fl cj ?_;refine lo fB ?_;refine ol pJ ?_;obtain⟨WG,qt,h⟩:=aa h;refine jb (eo rfl qt) ?_;refine fl cj ?_;refine lo fB ?_;refine ol pJ ?_;refine jc (FW rfl TF bQ QX) ?_;refine mq ?_;obtain⟨Wq,mw,h⟩:=aa h;refine jb (pj (t:=Ti) rfl TF bQ rfl rfl (λ_=>rfl) mw) ?_;obtain⟨Wx,Wj,h⟩:=aa h;refine jc (ax [.tmp 71,.const (.int .i64 (0)),.tmp 84] rfl rfl zi rfl (dX k Ws 0 Wq Wx Wj)) ?_;refine ja (fh rfl) ?_;refine nt (cw h (λh=>?_) (λh=>?_))
       .refine sr (cq ?_);refine cq ?_;refine cq (nt (aA (br (bb (br (bb (bg ?_)))))));obtain rfl:=hR _ h;exact aP (0,0) [.eq (.pointer none),_,_] 0 ⟨rfl,rfl,rfl,trivial⟩ rfl
       .refine aZ (aI (tn (ae ?_)));obtain⟨Wp,mc,h⟩:=aa h;refine jb (be rfl mc) ?_;refine mq (nl ?_);exact jz ((),Wp) h [0]
      .refine fA (bJ (bJ (cZ (bn ?_))));exact jz ((),()) h [0]
     .refine ae ?_;obtain⟨Wn,gw,h⟩:=aa h;refine jb (be rfl gw) ?_;refine mq (nl ?_);exact jz ((),Wn) h [0]
    .refine xa ?_;exact jz ((),()) h [0]
   .refine sr (lo dF ?_);obtain⟨X,Wi,h⟩:=aa h;have j:=oz k a0 X Wi;rcases hr:X with _ |Wy
    .rw [hr] at h j;replace h:=wW h;refine aR (Δ:=[]) (F:=_) (λ_ _ _=>ai rfl _) rfl rfl (ax [.tmp 89] rfl rfl MQ rfl j) ⟨rfl,trivial⟩ λ_=>?_;cases h
    .rw [hr] at h j;replace h:=wV h;refine aR (Δ:=[]) (F:=_) (λ_ _ _=>ai rfl _) rfl rfl (ax [.tmp 89] rfl rfl MQ rfl j) ⟨rfl,trivial⟩ λl=>?_;refine aq (nt (sr ?_));refine mq ?_;obtain⟨Wv,Wh,h⟩:=aa h;refine fr 1 ?_;refine fr 1 ?_;refine aR (Δ:=[_,_]) (F:=_) (λ_ _ _=>ai rfl _) rfl rfl (bo [.tmp 91] rfl rfl UT rfl (qT k Wy l.1 l.2 Wv Wh)) ⟨rfl,trivial⟩ λ_=>?_;refine nt (sr ?_);iterate 2 refine mq ?_
     refine aq ?_;refine aq ?_;refine cq (nt (aA ?_));cases h;exact aP (l.1,l.2) [.eq (.pointer (some ⟨l.1,0,none⟩)),_,_] 2 ⟨rfl,rfl,rfl,trivial⟩ rfl
def kA(k:Nat)(a0:ab)(r5:(List (List Int)))(x9:Int):Nat->((List (List Int))×Int)->Option (List (List Int))
 |0,_=>none
 |n+1,c=>
  if c.2 < x9 then((aG r5 c.2).bind λj=>
  (bS (0≤a0.1/\a0.1≤5)).bind λ_=>
  (mZ k (List.take (Int.toNat a0.1) j)).bind λe=>
  (bS (bi (length c.1+length [e]))).bind λ_=>
  (ck (c.2+1)).bind λh=>
  kA k a0 r5 x9 n (c.1++[e],h)) else(some c.1)
def qZ(k:Nat)(a0:ab)(a1:(List Int)):Option ((List (List Int))×Int):=
 (kJ k a0 a1 ([]:(List Int)) ([]:(List Int)) ([]:(List Int))).bind λr2=>
 gY r2.1 (if¬(r2.2.2=0) then(some (([]:(List (List Int))),r2.2.2)) else(none)) (λq3=>if¬(r2.2.2=0) then(some (([]:(List (List Int))),r2.2.2)) else((lE k q3 r2.2.1).bind λr5=>
 (((ck ((a0.2.2.2.2.1.length:Int)+1)).bind λx9=>
 kA k a0 r5 x9 k (([]:(List (List Int))),0)):Option ((List (List Int)))).bind λx7=>
 some (x7,0)))
theorem wS(k:Nat)(a0:ab)(a1:(List Int))(r:(List (List Int))×Int)(h:qZ k a0 a1=some r):
 co (eu Tryz.prog) 17 [.rep am a0,.rep Tl a1] [] (λ_:Unit=>(bC [.rep (.slice Tl) r.1,I r.2],[])):=by
 unfold qZ at h
 replace h:=aX h
 refine co.of 43 Tryz.func17 rfl Tryz.ntmps17 rfl λS w0=>?_
 refine sr ?_
 refine bx λb1=>?_
 refine cq ?_
 refine cq ?_
 refine nt ?_
 refine sr ?_
 refine lo dF ?_
 refine mq ?_
 obtain⟨r2,X,h⟩:=aa h
 have j:=mN k a0 a1 ([]:(List Int)) ([]:(List Int)) ([]:(List Int)) r2 X
 rcases hr:r2.1 with _ |q3
 .
  rw [hr] at h j;replace h:=wW h;refine aR (Δ:=[]) (F:=_) (λ_ _ _=>ai rfl _) rfl rfl (bR (N:=[(.tmp 13,.rep am a0),(.tmp 14,.rep Tl a1),(.const (.slice none 0 0),.eq (.slice none 0 0)),(.const (.slice none 0 0),.eq (.slice none 0 0)),(.const (.slice none 0 0),.eq (.slice none 0 0))]) (bo [.tmp 13,.tmp 14,.const (.slice none 0 0),.const (.slice none 0 0),.const (.slice none 0 0)] rfl rfl Bm rfl j) λ_ _ _ hn=>⟨hn.1,hn.2.1,(aM (t:=Tl) (x:=([]:(List Int))) .nil rfl rfl hn.2.2.1),(aM (t:=Tl) (x:=([]:(List Int))) .nil rfl rfl hn.2.2.2.1),(aM (t:=Tl) (x:=([]:(List Int))) .nil rfl rfl hn.2.2.2.2.1),trivial⟩) ⟨rfl,rfl,rfl,rfl,rfl,trivial⟩ λ_=>?_;refine mq ?_;refine xr ?_;refine xr ?_;refine xr ?_;refine aq ?_;refine aq ?_;refine aq (nt (aj (sr ?_)));refine mq ?_;refine jb (d5 rfl) ?_;refine nt (cn h (λh=>?_) (λh=>?_))
  .refine sr (mq ?_);refine cq ?_;refine aq (nt (rx ?_));refine bK (eB (t:=(.slice Tl)) (x:=([]:(List (List Int)))) 4 rfl .nil rfl rfl) ?_;cases h;exact rb
  .cases h
 .
  rw [hr] at h j;replace h:=wV h;refine aR (Δ:=[]) (F:=_) (λ_ _ _=>ai rfl _) rfl rfl (bR (N:=[(.tmp 13,.rep am a0),(.tmp 14,.rep Tl a1),(.const (.slice none 0 0),.eq (.slice none 0 0)),(.const (.slice none 0 0),.eq (.slice none 0 0)),(.const (.slice none 0 0),.eq (.slice none 0 0))]) (bo [.tmp 13,.tmp 14,.const (.slice none 0 0),.const (.slice none 0 0),.const (.slice none 0 0)] rfl rfl Bm rfl j) λ_ _ _ hn=>⟨hn.1,hn.2.1,(aM (t:=Tl) (x:=([]:(List Int))) .nil rfl rfl hn.2.2.1),(aM (t:=Tl) (x:=([]:(List Int))) .nil rfl rfl hn.2.2.2.1),(aM (t:=Tl) (x:=([]:(List Int))) .nil rfl rfl hn.2.2.2.2.1),trivial⟩) ⟨rfl,rfl,rfl,rfl,rfl,trivial⟩ λz4=>?_;refine mq ?_;refine xr ?_;refine xr ?_;refine xr ?_;refine aq ?_;refine aq ?_;refine aq (nt (aj (sr ?_)));refine mq ?_;refine jb (d5 rfl) ?_;refine nt (cn h (λh=>?_) (λh=>?_))
  .refine sr (mq ?_);refine cq ?_;refine aq (nt (rx ?_));refine bK (eB (t:=(.slice Tl)) (x:=([]:(List (List Int)))) 4 rfl .nil rfl rfl) ?_;cases h;exact rb
  .refine sk (sr (cq (nt (sr ?_))));iterate 2 refine mq ?_
   obtain⟨r5,U,h⟩:=aa h;refine fr 1 ?_;refine fr 1 ?_;refine aR (Δ:=[_,_]) (F:=_) (λ_ _ _=>ai rfl _) rfl rfl (bo [.tmp 22,.tmp 23] rfl rfl Gh rfl (qf k q3 z4.1 z4.2 r2.2.1 r5 U)) ⟨rfl,rfl,trivial⟩ λ_=>?_;refine aW rfl rfl rfl (bv rfl G4 Jx) trivial λb6=>?_;refine aO rfl rfl (aN rfl HF rfl rfl rfl) ⟨rfl,rfl,trivial⟩ ?_;refine eD (kj (t:=(.arr 7 Tr)) (x:=r5) [10] .rep ⟨rfl,trivial⟩) ?_;refine nt (aE (Z:=Value) (α:=(List (List Int))) (λz8 x7=>[(9,.eq z8)]) (λz8 x7=>[.sl z8 28 Tl x7,.inv z4.2 (cy k q3)]) h (λK h=>?_) (λz8 x7 h=>?_))
   .refine sr (fl cj ?_);refine fr 2 ?_;refine lo fB ?_;refine ol pJ ?_;obtain⟨x9,Q,h⟩:=aa h;refine jb (be rfl Q) ?_;refine fH rfl ?_;refine nt (ah (hP (SE.nil 28 Tl) ?_));refine aC (λe c=>[(2,Pt b1),(9,.eq e),(10,.at (.arr 7 Tr) r5),(28,I x9),(29,I c.2)]) (λe c=>[.obj b1 25 (.rep am a0),.sl e 28 Tl c.1,.inv z4.2 (cy k q3)]) (kA k a0 r5 x9) k (.slice none 0 0) (([]:(List (List Int))),0) (λ_=>rfl) h (SE.fin [1,0,3] ⟨rfl,rfl,rfl,rfl,rfl,trivial⟩ rfl) (λn e c h=>?_);unfold kA at h;refine sr (jb (bj rfl) ?_);refine nt (aj (ci h (λh=>?_) (λh=>?_)))
    .refine sk (aj (ah (sr (mq ?_))));refine aq (nt ?_);refine bz ?_;refine dm ?_;refine dm ?_;obtain⟨M,y,h⟩:=aa h;refine db (cG (t:=Tr) rfl Kw jT y) ?_;refine da (au rfl eU) ?_;refine ea 0 (an rfl bQ ju rfl) ?_;obtain⟨gw,l,h⟩:=aa h;refine db (wI (t:=Ti) rfl D1 bQ (ap l).1 (ap l).2) ?_;obtain⟨s,E,h⟩:=aa h;refine da (zD (ax [.tmp 37] rfl rfl Vg rfl (sT k (List.take (Int.toNat a0.1) M) s E))) ?_;refine da (aV (t:=Tl) [(.tmp 38,_)] [s] rfl rfl lT (.cons rfl .rep .nil) rfl rfl) ?_;refine df cQ ?_;obtain⟨Y,D,h⟩:=aa h;refine fr 1 ?_;refine cR rfl rfl rfl (bp rfl rfl lT (ap D)) ⟨rfl,rfl,trivial⟩ λO=>?_;refine aq (aF (aI (tn (ae ?_))));obtain⟨J,u,h⟩:=aa h;refine jb (be rfl u) ?_;refine mq (nl ?_);exact jz (O,(c.1++[s],J)) h [1,0,2]
    .refine xa ?_;exact jz (e,c.1) h [1,2]
   .refine sr (mq ?_);refine aq ?_;refine cq (nt (aA ?_));refine bK (gy [4,9,42] ⟨rfl,rfl,rfl,trivial⟩) ?_;cases h;exact rb
def cJ(k:Nat)(a0:ab)(a2:Int)(r1:(List (List Int))):Nat->Int->Option Bool
 |0,_=>none
 |n+1,y3=>
  if y3 < (a0.2.2.2.2.2.length:Int) then((aG a0.2.2.2.2.2 y3).bind λx5=>
  (((fj k a2 y3).bind λr9=>
  if¬(r9=true) then((aG r1 x5.2.1).bind λh=>
  (aG h x5.1).bind λe=>
  some (!decide ((decide (a0.2.2.1≤e))=x5.2.2))) else(some false)):Option (Bool)).bind λx7=>
  if x7=true then(some false) else((ck (y3+1)).bind λc=>
  cJ k a0 a2 r1 n c)) else(some true)
def g7(k:Nat)(a0:ab)(a1:Int)(a2:Int):Option Bool:=
 (lE k a0 a1).bind λr1=>
 cJ k a0 a2 r1 k 0
theorem pr(k:Nat)(a0:ab)(c z_a0:Nat)(a1:Int)(a2:Int)(r:Bool)(h:g7 k a0 a1 a2=some r):
 D7 (eu Tryz.prog) 119 [Pt c,.eq (.int .u8 a1),.eq (.int .u8 a2)] [.obj c 135 (ba a0 z_a0),.inv z_a0 (cy k a0)] (.iface 168 (.agg #[])) r:=by
 unfold g7 at h
 replace h:=aX h
 refine D7.of 48 Tryz.func119 rfl Tryz.ntmps119 rfl λS w0=>?_
 refine sr ?_
 iterate 2 refine mq ?_
 obtain⟨r1,E,h⟩:=aa h
 have J:=qf k a0 c z_a0 a1 r1 E
 refine fr 1 ?_
 refine fr 1 ?_
 refine aR (Δ:=[_,_]) (F:=_) (λ_ _ _=>ai rfl _) rfl rfl (bo [.tmp 9,.tmp 10] rfl rfl Gh rfl J) ⟨rfl,rfl,trivial⟩ λ_=>?_
 refine aW rfl rfl rfl (bv rfl G4 Jx) trivial λb2=>?_
 refine aO rfl rfl (aN rfl HF rfl rfl rfl) ⟨rfl,rfl,trivial⟩ ?_
 refine eD (kj (t:=(.arr 7 Tr)) (x:=r1) [6] .rep ⟨rfl,trivial⟩) ?_
 refine nt ?_
 refine sr ?_
 refine mq ?_
 refine ja (cU rfl) ?_
 refine fl iE ?_
 refine fl fR ?_
 refine lo nm ?_
 refine ol Cf ?_
 refine fH rfl ?_
 refine nt ?_
 refine ah ?_
 refine aC (λz4 y3=>[(0,Pt c),(2,.eq (.int .u8 a2)),(6,.at (.arr 7 Tr) r1),(16,Rs aJ a0.2.2.2.2.2),(17,I (a0.2.2.2.2.2.length:Int)),(18,I y3)]) (λz4 y3=>[.obj c 135 (ba a0 z_a0),.inv z_a0 (cy k a0)]) (cJ k a0 a2 r1) k () 0 (λ_=>rfl) h (SE.fin [0,1] ⟨rfl,rfl,rfl,rfl,rfl,rfl,trivial⟩ rfl) (λn z4 y3 h=>?_)
 unfold cJ at h
 refine sr ?_
 refine jb (bj rfl) ?_
 refine nt ?_
 refine aj ?_
 refine ci h (λh=>?_) (λh=>?_)
 .
  refine sk (aj (ah (sr (mq ?_))));obtain⟨x5,y,h⟩:=aa h;refine jb (aD (t:=aJ) rfl Cf mY y) ?_;refine ja (ao (t:=aJ) rfl mY rfl) ?_;refine aW rfl rfl rfl (bv rfl Fv Nw) trivial λb6=>?_;refine aq ?_;refine aO rfl rfl (aN rfl mY rfl rfl rfl) ⟨rfl,rfl,trivial⟩ ?_;refine nt (aE (Z:=Unit) (α:=Bool) (λz8 x7=>[(0,Pt c),(2,.eq (.int .u8 a2)),(6,.at (.arr 7 Tr) r1),(16,Rs aJ a0.2.2.2.2.2),(17,I (a0.2.2.2.2.2.length:Int)),(18,I y3),(44,.eq (.bool x7))]) (λz8 x7=>[.obj c 135 (ba a0 z_a0),.inv z_a0 (cy k a0)]) h (λK h=>?_) (λz8 x7 h=>?_))
  .refine bz ?_;refine dm ?_;refine dm ?_;obtain⟨r9,D,h⟩:=aa h;refine db (ax [.tmp 23,.tmp 24] rfl rfl Jh rfl (ip k a2 y3 r9 D)) ?_;refine da (fh rfl) ?_;refine mX rfl rfl rfl (aY rfl) ⟨rfl,trivial⟩ (λhb=>?_) (λhb=>?_)
   .replace h:=ee (um hb) h;refine bB rfl rfl rfl rfl rfl (au rfl zd) ⟨rfl,rfl,trivial⟩ ?_;refine ia 0 rfl rfl rfl rfl rfl rfl (an rfl bQ ju rfl) ⟨rfl,rfl,trivial⟩ ?_;refine bB rfl rfl rfl rfl rfl (au rfl ze) ⟨rfl,rfl,trivial⟩ ?_;refine ia 0 rfl rfl rfl rfl rfl rfl (an rfl bQ ju rfl) ⟨rfl,rfl,trivial⟩ ?_;obtain⟨M,l,h⟩:=aa h;refine bB rfl rfl rfl rfl rfl (cG (t:=Tr) rfl Kw jT l) ⟨rfl,rfl,rfl,trivial⟩ ?_;obtain⟨u,j,h⟩:=aa h;refine bB rfl rfl rfl rfl rfl (cG (t:=Ti) rfl D1 bQ j) ⟨rfl,rfl,rfl,trivial⟩ ?_;refine bB rfl rfl rfl rfl rfl (ao (t:=Ti) rfl bQ rfl) ⟨rfl,rfl,trivial⟩ ?_;refine bB rfl rfl rfl rfl rfl (aY rfl) ⟨rfl,rfl,trivial⟩ ?_;refine bB rfl rfl rfl rfl rfl (cU rfl) ⟨rfl,rfl,trivial⟩ ?_;refine bB rfl rfl rfl rfl rfl (au rfl iE) ⟨rfl,rfl,trivial⟩ ?_;refine bB rfl rfl rfl rfl rfl (au rfl pC) ⟨rfl,rfl,trivial⟩ ?_;refine ia 1 rfl rfl rfl rfl rfl rfl (an rfl bQ ju rfl) ⟨rfl,rfl,trivial⟩ ?_;refine bB rfl rfl rfl rfl rfl (iI rfl) ⟨rfl,rfl,rfl,trivial⟩ ?_;refine bB rfl rfl rfl rfl rfl (au rfl Jd) ⟨rfl,rfl,trivial⟩ ?_;refine ia 0 rfl rfl rfl rfl rfl rfl (an rfl VK ju rfl) ⟨rfl,rfl,trivial⟩ ?_;refine df cQ ?_;refine gb (PI rfl U4) ?_;refine pt (nl ?_);exact jz ((), !decide ((decide (a0.2.2.1≤u))=x5.2.2)) h [1,2]
   .replace h:=cK (ox hb) h;iterate 15 refine dg ?_
    refine df cQ ?_;refine gn ?_;refine pf (nl ?_);exact jz ((),false) h [1,2]
  .refine cv h (λh=>?_) (λh=>?_)
   .refine ae (cz rfl (Ip rfl Qw QW) trivial ?_);refine ja (Il rfl Qw) ?_;refine GT rfl rfl rfl rfl ?_;refine BS ?_;refine tX ?_;refine tX ?_;refine BS ?_;refine bK (SE.fin (Γ':=[]) [0,1] trivial rfl) ?_;cases h;exact NT
   .refine aZ (aI (tn (ae ?_)));obtain⟨s,e,h⟩:=aa h;refine jb (be rfl e) ?_;refine mq (nl ?_);exact jz ((),s) h [0,1]
 .
  refine fA (bJ (bJ (cZ (kW ?_))));refine bK (SE.fin (Γ':=[]) [0,1] trivial rfl) ?_;cases h;exact aP () [] 2 trivial rfl
def dn(k:Nat)(a0:ab)(a1:Int)(a2:Int):Option Bool:=g7 k a0 a1 a2
theorem Of:Qx Tryz.prog 168 (.agg #[]):=⟨⟨_,Qw⟩,λw=>by kernel_rfl⟩
theorem Jj:∀(S:FS) (w:World),(A.rep (.arr 0 Ti) []).holds S w (.agg #[]):=λ_ _=>⟨[],⟨rfl,rfl⟩,rfl⟩
theorem N6:∀w,(zeroValue 168).run Tryz.prog w= .ok (.agg #[]) w:=λw=>by kernel_rfl
theorem OF:∀S w,(A.cells S w (.rep (.arr 0 Ti) []) (Value.cells (.agg #[])).toList):=λ_ _=>⟨rfl,rfl⟩
theorem Og:eE Tryz.prog 168 0 true:=⟨λw=>by kernel_rfl,λw=>by kernel_rfl⟩
theorem S5:ag Tryz.prog 118:=ag.of Tryz.func118 (by kernel_rfl) (by kernel_rfl)
theorem Ot:ag Tryz.prog 119:=ag.of Tryz.func119 (by kernel_rfl) (by kernel_rfl)
theorem KY:eE Tryz.prog 4 1 false:=⟨λw=>by kernel_rfl,λw=>by kernel_rfl⟩
theorem Uj:∀w,(zeroValue 4).run Tryz.prog w= .ok (.bool false) w:=λw=>by kernel_rfl
theorem Vx:∀S w,(A.cells S w (.eq (.bool false)) (Value.cells (.bool false)).toList):=λ_ _=>⟨rfl,rfl⟩
theorem Bz:zK Tryz.prog 118 (.iface 168 (.agg #[])) 4 (.bool false):=by
 refine⟨S5,λM e0=>?_,λM e0=>?_⟩
 .refine mA.of (M:=M) (m:=.returning) (m1:=.returning) (val:=.nilIface) Tryz.func118 rfl rfl (by decide) rfl rfl (by decide) (λρ=>rfl) (λfr b cs hb hm=>H2 hb hm rfl) (.inl rfl) λb S w0=>?_;refine ja (Ls Jj rfl Of) ?_;refine mq ?_;refine xr ?_;refine xr ?_;refine aW rfl rfl rfl (bv rfl N6 OF) trivial λb1=>?_;refine aO rfl rfl (aN rfl Og rfl rfl rfl) ⟨rfl,rfl,trivial⟩ ?_;refine aq (nt (sr ?_));refine mq (nt ?_);refine jS rfl (λhb=>by cases hb) (λhb=>?_);refine aZ (kW ?_);refine bK (SE.fin (Γ':=[]) [1] trivial rfl) ?_;exact aP () [] 1 trivial rfl
 .refine mA.of (M:=M) (m:=.panicking (iM (.iface 168 (.agg #[])) false)) (m1:=.panicking (iM (.iface 168 (.agg #[])) true)) (val:=.iface 168 (.agg #[])) Tryz.func118 rfl rfl (by decide) rfl rfl (by decide) (λρ=>rfl) (λfr b cs hb hm=>HZ hb hm) (.inr ⟨_,rfl⟩) λb S w0=>?_;refine ja (Lr Jj rfl Of) ?_;refine mq ?_;refine xr ?_;refine xr ?_;refine aW rfl rfl rfl (bv rfl N6 OF) trivial λb1=>?_;refine aO rfl rfl (aN rfl Og rfl rfl rfl) ⟨rfl,rfl,trivial⟩ ?_;refine aq (nt (sr ?_));refine mq (nt ?_);refine jS rfl (λhb=>?_) (λhb=>by cases hb);refine ae (fr 1 ?_);refine aO rfl rfl (aN rfl KY rfl rfl rfl) ⟨rfl,rfl,trivial⟩ ?_;refine aF (kW ?_);refine bK (SE.fin (Γ':=[]) [0] trivial rfl) ?_;exact aP () [] 1 trivial rfl
theorem oJ(k:Nat)(a0:ab)(c z_a0:Nat)(a1:Int)(a2:Int)(r:Bool)(h:dn k a0 a1 a2=some r):
 co (eu Tryz.prog) 101 [Pt c,.eq (.int .u8 a1),.eq (.int .u8 a2)] (rG a0 c z_a0 k) (λ_:Unit=>(bC [.eq (.bool r)],rG a0 c z_a0 k)):=by
 have cr:=pr k a0 c z_a0 a1 a2 r h
 refine BW 12 Tryz.func101 rfl Tryz.ntmps101 rfl λS w0=>?_
 refine sr ?_
 refine aW rfl rfl rfl (bv rfl Uj Vx) trivial λb6=>?_
 refine nt ?_
 refine sr ?_
 refine ja (s5 [] [.tmp 6] [] [(Pv b6)] rfl rfl rfl) ?_
 refine JX rfl rfl rfl rfl rfl ?_
 refine nt ?_
 refine sr ?_
 iterate 3 refine mq ?_
 refine fr 2 ?_
 refine fr 2 ?_
 cases r with
 |false=>
  refine JY (Ss:=[Pt c,.eq (.int .u8 a1),.eq (.int .u8 a2)]) (Δ:=rG a0 c z_a0 k) (F:=[.obj b6 4 (.eq (.bool false))]) [.tmp 8,.tmp 9,.tmp 10] rfl rfl rfl rfl Ot ⟨rfl,rfl,rfl,trivial⟩ cr ?_;refine tX ?_;refine bK (SE.fin (Γ':=[(6,_)]) [2,0,1] ⟨rfl,trivial⟩ rfl) ?_;refine GU Bz ?_;refine bK (SE.fin (Γ':=[(6,_)]) [1,2,0] ⟨rfl,trivial⟩ rfl) ?_;exact aP () [.eq (.bool false)] 2 ⟨⟨_,_,_,_,_,rfl,(.tail _ (.tail _ (.head _))),KY,(λ_=>rfl),rfl⟩,trivial⟩ rfl
 |true=>
  refine aR (Δ:=rG a0 c z_a0 k) (F:=[.obj b6 4 (.eq (.bool false))]) (λ_ _ _=>ai rfl _) rfl rfl (bo [.tmp 8,.tmp 9,.tmp 10] rfl rfl Ot rfl cr.ok) ⟨rfl,rfl,rfl,trivial⟩ λ_=>?_;refine nt (sr (fr 2 ?_));refine aO rfl rfl (aN rfl KY rfl rfl rfl) ⟨rfl,rfl,trivial⟩ ?_;refine nt (aA (NS Bz ?_));refine bK (SE.fin (Γ':=[(6,_)]) [1,2,0] ⟨rfl,trivial⟩ rfl) ?_;exact aP () [.eq (.bool true)] 2 ⟨⟨_,_,_,_,_,rfl,(.tail _ (.tail _ (.head _))),KY,(λ_=>rfl),rfl⟩,trivial⟩ rfl
def eK(k:Nat)(a0:ab)(a1:Int):Option (List Int):=
 (kL k (rM (λ(y5:(List Int)) (p7:Int)=>
  (dn k a0 p7 a1).bind λr9=>
  if r9=true then((bS (bi (length y5+length [p7]))).bind λ_=>
  some (y5++[p7],true)) else(some (y5,true)))) a0.1 (([]:(List Int)),false)).bind λr8=>
 if r8.2=true then(none) else(some r8.1)
theorem lw(k:Nat)(a0:ab)(c z_a0:Nat)(a1:Int)(r:(List Int))(h:eK k a0 a1=some r):
 co (eu Tryz.prog) 68 [Pt c,.eq (.int .u8 a1)] [.obj c 135 (ba a0 z_a0),.inv z_a0 (cy k a0)] (λ_:Unit=>(bC [.rep (.slice (.int .u8)) r],[.obj c 135 (ba a0 z_a0),.inv z_a0 (cy k a0)])):=by
 unfold eK at h
 replace h:=aX h
 refine wn 23 Tryz.func68 rfl Tryz.ntmps68 rfl λS w0=>?_
 refine sr ?_
 refine bx λb1=>?_
 refine bx λb2=>?_
 refine cq ?_
 refine nt ?_
 refine sr ?_
 refine aW rfl rfl rfl (bv rfl Ky Nu) trivial λb3=>?_
 refine nt ?_
 refine aj ?_
 refine sr ?_
 refine fr 2 ?_
 refine lo KX ?_
 refine ja (cU rfl) ?_
 refine fl iE ?_
 refine fl eU ?_
 refine fr 3 ?_
 refine lo bQ ?_
 refine aW rfl rfl rfl (ax [.tmp 11] rfl rfl SB rfl (sd a0.1)) ⟨rfl,trivial⟩ λb4=>?_
 refine nt ?_
 refine ah ?_
 refine hP (SE.nil 78 (.int .u8)) ?_
 refine dI 6 rfl ?_
 refine dI 6 rfl ?_
 refine dI 2 rfl ?_
 refine dI 6 rfl ?_
 refine dI 6 rfl ?_
 refine dI 6 rfl ?_
 refine dI 6 rfl ?_
 obtain⟨r8,s,h⟩:=aa h
 refine sK (Δ:=[.obj b4 3 (I a0.1),.obj c 135 (ba a0 z_a0),.obj b1 77 (Pt c),.obj b3 92 (.eq (.slice none 0 0)),.sl (.slice none 0 0) 78 (.int .u8) ([]:(List Int)),.obj b2 78 (.eq (.int .u8 a1)),.inv z_a0 (cy k a0)]) (F:=[]) (X:=Value) (J:=λ_=>QT r8.2) (E:=λz6=>[.obj b4 3 (I a0.1),.obj c 135 (ba a0 z_a0),.obj b1 77 (Pt c),.obj b3 92 (.eq z6),.sl z6 78 (.int .u8) r8.1,.obj b2 78 (.eq (.int .u8 a1)),.inv z_a0 (cy k a0)]) (r0:=λ_=>.tup .any) rfl rfl Ov (λrec hp ha hb hs hpe hN hv l=>?_) (λdl z6=>uV (λhj=>?_) (λhj=>?_))
 .
  rcases rec with⟨st0,pe0,fn0,tm0,ps0,as0,bd0,df0⟩;dsimp only at hp ha hb hs hpe hN hv;subst hp hs hpe;have vN:BM tm0 [(2,Pt b1),(3,Pt b2),(5,Pt b3)]:=⟨congrArg A.eq (hv 2 _ rfl).symm,congrArg A.eq (hv 3 _ rfl).symm,congrArg A.eq (hv 5 _ rfl).symm,trivial⟩;refine co.pick (M:=(eu Tryz.prog)) [1,0,2,3,4,5,6,7] [1,0,2,3,4,5,6,7] (pu (λ(z6:Value) (q:(List Int)×Bool)=>[.raw l (.loop (k9 ⟨.ready,none,fn0,tm0, #[13],as0,bd0,df0⟩ (QT q.2))),.obj c 135 (ba a0 z_a0),.obj b1 77 (Pt c),.obj b3 92 (.eq z6),.sl z6 78 (.int .u8) q.1,.obj b2 78 (.eq (.int .u8 a1)),.inv z_a0 (cy k a0)]) l (rM (λ(y5:(List Int)) (p7:Int)=>
  (dn k a0 p7 a1).bind λr9=>
  if r9=true then((bS (bi (length y5+length [p7]))).bind λ_=>
  some (y5++[p7],true)) else(some (y5,true)))) k a0.1 b4 (λz6 q p r' h=>?_) (.slice none 0 0) (([]:(List Int)),false) r8 s) rfl (λ_=>rfl) (λ_=>rfl)
  obtain⟨rq,hq,h2,rfl⟩:=uW h;obtain⟨y5,b5⟩:=q;obtain rfl:b5=false:=hq;replace h:=aX h2;obtain⟨p7,hpv⟩:∃x,x=p:=⟨_,rfl⟩;subst hpv;refine YT.pick (R':=(λz6:Value=>(.eq (.bool rq.2),[.raw l (.loop (k9 ⟨.ready,none,fn0,tm0, #[13],as0,bd0,df0⟩ (QT (!rq.2)))),.obj c 135 (ba a0 z_a0),.obj b1 77 (Pt c),.obj b3 92 (.eq z6),.sl z6 78 (.int .u8) rq.1,.obj b2 78 (.eq (.int .u8 a1)),.inv z_a0 (cy k a0)]))) [0,1,2,3,4,5,6] [0,1,2,3,4,5,6] (Jz ha hb (N:=23) (Γ:=[(2,Pt b1),(3,Pt b2),(5,Pt b3)]) rfl hN (by decide) vN (λS w=>?_)) rfl (λ_=>rfl) (λ_=>rfl);refine ae (aq (nl ?_));refine BU rfl rfl ?_;refine ah (sr (fr 2 ?_));refine lo KX ?_;refine mq ?_;refine fr 5 ?_;refine lo qG ?_;obtain⟨r9,n,h⟩:=aa h;refine fr 6 ?_;refine fr 4 ?_;refine aR (Δ:=[_,_]) (F:=_) (λ_ _ _=>ai rfl _) rfl rfl (bo [.tmp 14,.tmp 15,.tmp 16] rfl rfl Tn rfl (oJ k a0 c z_a0 p7 a1 r9 n)) ⟨rfl,rfl,rfl,trivial⟩ λ_=>?_;refine nt (cv h (λh=>?_) (λh=>?_))
  .refine ae (fr 5 ?_);refine lo yr ?_;refine mq ?_;refine ja (aV (t:=(.int .u8)) [(.tmp 19,_)] [p7] rfl rfl K8 (.cons rfl .int .nil) rfl rfl) ?_;obtain⟨u,e,h⟩:=aa h;refine fr 6 ?_;refine cR rfl rfl rfl (bp rfl rfl K8 (ap e)) ⟨rfl,rfl,trivial⟩ λj=>?_;refine ot λo12=>?_;refine fr 1 ?_;refine aO rfl rfl (aN rfl yr o12 rfl rfl) ⟨rfl,rfl,trivial⟩ ?_;refine aF (aI (bG 3 rfl ?_));refine bG 4 rfl ?_;refine bG 3 rfl ?_;refine bG 3 rfl ?_;refine bG 5 rfl ?_;refine bG 5 rfl ?_;refine bG 6 rfl ?_;cases h;exact qo j 6 rfl
  .refine aZ (aI (bG 1 rfl ?_));refine bG 2 rfl ?_;refine bG 6 rfl ?_;refine bG 6 rfl ?_;refine bG 5 rfl ?_;refine bG 5 rfl ?_;refine bG 6 rfl ?_;cases h;exact qo z6 6 rfl
 .
  replace h:=cK (KQ hj) h;refine aI (tn (sr (fr 4 ?_)));refine lo yr ?_;refine aq (nt (aA ?_));refine bG 5 rfl ?_;refine bK (jj (off:=0) [4,22] ⟨rfl,rfl,trivial⟩ rfl rfl) ?_;refine bG 1 rfl ?_;refine Fb ?_;refine bK (SE.fin (Γ':=[(4,_)]) [2,5,0,1,3,4] ⟨rfl,trivial⟩ rfl) ?_;cases h;exact aP () [_] 2 ⟨rfl,trivial⟩ rfl
 .
  replace h:=ee (KP hj) h;cases h
def jZ(k:Nat)(a0:ab)(a1:(List Int))(a2:(List Int))(a3:(List Int)):Option ((Option ab)×(List Int)×Int):=
 (kJ k a0 ([]:(List Int)) a1 a2 a3).bind λr2=>
 gY r2.1 (if¬(r2.2.2=0) then(some (none,([]:(List Int)),r2.2.2)) else(none)) (λq3=>if¬(r2.2.2=0) then(some (none,([]:(List Int)),r2.2.2)) else((eK k q3 0).bind λr5=>
 if(r5.length:Int)=0 then(some (none,([]:(List Int)),9)) else(some (some q3,r5,0))))
theorem nX(k:Nat)(a0:ab)(a1:(List Int))(a2:(List Int))(a3:(List Int))(r:(Option ab)×(List Int)×Int)(h:jZ k a0 a1 a2 a3=some r):
 co (eu Tryz.prog) 60 [.rep am a0,.rep Tl a1,.rep Tl a2,.rep Tl a3] [] (λz:Nat×Nat=>(bC [Lp r.1 z.1,.rep (.slice (.int .u8)) r.2.1,I r.2.2],Ln r.1 λq=>rG q z.1 z.2 k)):=by
 unfold jZ at h
 replace h:=aX h
 refine co.of 34 Tryz.func60 rfl Tryz.ntmps60 rfl λS w0=>?_
 refine sr ?_
 refine bx λb1=>?_
 refine cq ?_
 refine cq ?_
 refine cq ?_
 refine nt ?_
 refine sr ?_
 refine lo dF ?_
 iterate 3 refine mq ?_
 obtain⟨r2,j,h⟩:=aa h
 have c:=mN k a0 ([]:(List Int)) a1 a2 a3 r2 j
 rcases hr:r2.1 with _ |q3
 .
  rw [hr] at h c;replace h:=wW h;refine aR (Δ:=[]) (F:=_) (λ_ _ _=>ai rfl _) rfl rfl (bR (N:=[(.tmp 16,.rep am a0),(.const (.slice none 0 0),.eq (.slice none 0 0)),(.tmp 17,.rep Tl a1),(.tmp 18,.rep Tl a2),(.tmp 19,.rep Tl a3)]) (bo [.tmp 16,.const (.slice none 0 0),.tmp 17,.tmp 18,.tmp 19] rfl rfl Bm rfl c) λ_ _ _ hn=>⟨hn.1,(aM (t:=Tl) (x:=([]:(List Int))) .nil rfl rfl hn.2.1),hn.2.2.1,hn.2.2.2.1,hn.2.2.2.2.1,trivial⟩) ⟨rfl,rfl,rfl,rfl,rfl,trivial⟩ λ_=>?_;refine mq ?_;refine xr ?_;refine xr ?_;refine xr ?_;refine aq ?_;refine aq ?_;refine aq (nt (aj (sr ?_)));refine mq ?_;refine jb (d5 rfl) ?_;refine nt (cn h (λh=>?_) (λh=>?_))
  .refine sr (mq ?_);refine cq ?_;refine cq ?_;refine aq (nt (rx ?_));refine bK (eB (t:=(.slice (.int .u8))) (x:=([]:(List Int))) 9 rfl .nil rfl rfl) ?_;cases h;exact aP (0,0) [.eq (.pointer none),_,_] 0 ⟨rfl,rfl,rfl,trivial⟩ rfl
  .cases h
 .
  rw [hr] at h c;replace h:=wV h;refine aR (Δ:=[]) (F:=_) (λ_ _ _=>ai rfl _) rfl rfl (bR (N:=[(.tmp 16,.rep am a0),(.const (.slice none 0 0),.eq (.slice none 0 0)),(.tmp 17,.rep Tl a1),(.tmp 18,.rep Tl a2),(.tmp 19,.rep Tl a3)]) (bo [.tmp 16,.const (.slice none 0 0),.tmp 17,.tmp 18,.tmp 19] rfl rfl Bm rfl c) λ_ _ _ hn=>⟨hn.1,(aM (t:=Tl) (x:=([]:(List Int))) .nil rfl rfl hn.2.1),hn.2.2.1,hn.2.2.2.1,hn.2.2.2.2.1,trivial⟩) ⟨rfl,rfl,rfl,rfl,rfl,trivial⟩ λz4=>?_;refine mq ?_;refine xr ?_;refine xr ?_;refine xr ?_;refine aq ?_;refine aq ?_;refine aq (nt (aj (sr ?_)));refine mq ?_;refine jb (d5 rfl) ?_;refine nt (cn h (λh=>?_) (λh=>?_))
  .refine sr (mq ?_);refine cq ?_;refine cq ?_;refine aq (nt (rx ?_));refine bK (eB (t:=(.slice (.int .u8))) (x:=([]:(List Int))) 9 rfl .nil rfl rfl) ?_;cases h;exact aP (0,0) [.eq (.pointer none),_,_] 0 ⟨rfl,rfl,rfl,trivial⟩ rfl
  .refine sk (sr (mq ?_));obtain⟨r5,e,h⟩:=aa h;refine fr 1 ?_;refine fr 1 ?_;refine aR (Δ:=[_,_]) (F:=_) (λ_ _ _=>ai rfl _) rfl rfl (bo [.tmp 27,.const (.int .u8 (0))] rfl rfl SH rfl (lw k q3 z4.1 z4.2 0 r5 e)) ⟨rfl,rfl,trivial⟩ λ_=>?_;refine aq (nt (aj (sr ?_)));refine mq ?_;refine ol Ce ?_;refine jb (jE rfl) ?_;refine nt (ci h (λh=>?_) (λh=>?_))
   .refine sr (cq ?_);refine cq ?_;refine cq (nt (rx ?_));refine bK (eB (t:=(.slice (.int .u8))) (x:=([]:(List Int))) 9 rfl .nil rfl rfl) ?_;cases h;exact aP (0,0) [.eq (.pointer none),_,_] 0 ⟨rfl,rfl,rfl,trivial⟩ rfl
   .refine sk (sr ?_);iterate 2 refine mq ?_
    refine aq ?_;refine aq ?_;refine cq (nt (aA ?_));cases h;exact aP (z4.1,z4.2) [.eq (.pointer (some ⟨z4.1,0,none⟩)),_,_] 2 ⟨rfl,rfl,rfl,trivial⟩ rfl
def ir(k:Nat)(a0:ab)(a1:Int)(r2:(Option ab)×(List Int)×Int)(q3:ab)(y7:(List Int)×Int):Nat->(Int×Int)->Option Int
 |0,_=>none
 |n+1,c=>
  if c.2 < (r2.2.1.length:Int) then((((aG r2.2.1 c.2).bind λr=>
  (lE k q3 r).bind λu=>
  (aG u a1).bind λl=>
  (aG l y7.2).bind λj=>
  if a0.2.2.1≤j then((ck (c.1+1)).bind λh=>
  some h) else(some c.1)):Option (Int)).bind λs=>
  (ck (c.2+1)).bind λe=>
  ir k a0 a1 r2 q3 y7 n (s,e)) else(some c.1)
def f7(k:Nat)(a0:ab)(a1:Int)(r2:(Option ab)×(List Int)×Int)(q3:ab):Nat->((List Int)×Int)->Option (List Int)
 |0,_=>none
 |n+1,y7=>
  if y7.2 < a0.1 then(((((ir k a0 a1 r2 q3 y7 k (0,0)):Option (Int)).bind λc=>
  (ck ((r2.2.1.length:Int) - c)).bind λe=>
  (bS (bi (length y7.1+length [pA c e]))).bind λ_=>
  some (y7.1++[pA c e])):Option ((List Int))).bind λx9=>
  (ck (y7.2+1)).bind λh=>
  f7 k a0 a1 r2 q3 n (x9,h)) else(some y7.1)
def nD(k:Nat)(a0:ab)(a1:Int):Option (Int×Int×Int):=
 (jZ k a0 ([]:(List Int)) ([]:(List Int)) [a1]).bind λr2=>
 gY r2.1 (if¬(r2.2.2=0) then(some (0,0,r2.2.2)) else(none)) (λq3=>if¬(r2.2.2=0) then(some (0,0,r2.2.2)) else(((f7 k a0 a1 r2 q3 k (([]:(List Int)),0)):Option ((List Int))).bind λx5=>
 (jl k x5).bind λc=>
 if(r2.2.1.length:Int)≤c then(some (0,0,11)) else((gP k x5 c).bind λe=>
 some (e,c,0))))
theorem t6(k:Nat)(a0:ab)(a1:Int)(r:Int×Int×Int)(h:nD k a0 a1=some r):
 co (eu Tryz.prog) 25 [.rep am a0,I a1] [] (λ_:Unit=>(bC [I r.1,I r.2.1,I r.2.2],[])):=by
 unfold nD at h
 replace h:=aX h
 refine co.of 71 Tryz.func25 rfl Tryz.ntmps25 rfl λS w0=>?_
 refine sr ?_
 refine bx λb1=>?_
 refine cq ?_
 refine cq ?_
 refine cq ?_
 refine nt ?_
 refine sr ?_
 refine lo dF ?_
 refine mq ?_
 refine ja (aV (t:=Ti) [(.tmp 18,_)] [a1] rfl rfl cV (.cons rfl .int .nil) rfl rfl) ?_
 obtain⟨r2,Wj,h⟩:=aa h
 have s:=nX k a0 ([]:(List Int)) ([]:(List Int)) [a1] r2 Wj
 rcases hr:r2.1 with _ |q3
 .
  rw [hr] at h s;replace h:=wW h;refine aR (Δ:=[]) (F:=_) (λ_ _ _=>ai rfl _) rfl rfl (bR (N:=[(.tmp 17,.rep am a0),(.const (.slice none 0 0),.eq (.slice none 0 0)),(.const (.slice none 0 0),.eq (.slice none 0 0)),(.tmp 19,.rep Tl [a1])]) (bo [.tmp 17,.const (.slice none 0 0),.const (.slice none 0 0),.tmp 19] rfl rfl Gf rfl s) λ_ _ _ hn=>⟨hn.1,(aM (t:=Tl) (x:=([]:(List Int))) .nil rfl rfl hn.2.1),(aM (t:=Tl) (x:=([]:(List Int))) .nil rfl rfl hn.2.2.1),hn.2.2.2.1,trivial⟩) ⟨rfl,rfl,rfl,rfl,trivial⟩ λ_=>?_;refine mq ?_;refine xr ?_;refine xr ?_;refine xr ?_;refine aq ?_;refine aq ?_;refine aq (nt (aj (sr ?_)));refine mq ?_;refine jb (d5 rfl) ?_;refine nt (cn h (λh=>?_) (λh=>?_))
  .refine sr (mq ?_);refine cq ?_;refine cq ?_;refine aq (nt (rx ?_));cases h;exact aP () [_,_,_] 0 ⟨rfl,rfl,rfl,trivial⟩ rfl
  .cases h
 .
  rw [hr] at h s;replace h:=wV h;refine aR (Δ:=[]) (F:=_) (λ_ _ _=>ai rfl _) rfl rfl (bR (N:=[(.tmp 17,.rep am a0),(.const (.slice none 0 0),.eq (.slice none 0 0)),(.const (.slice none 0 0),.eq (.slice none 0 0)),(.tmp 19,.rep Tl [a1])]) (bo [.tmp 17,.const (.slice none 0 0),.const (.slice none 0 0),.tmp 19] rfl rfl Gf rfl s) λ_ _ _ hn=>⟨hn.1,(aM (t:=Tl) (x:=([]:(List Int))) .nil rfl rfl hn.2.1),(aM (t:=Tl) (x:=([]:(List Int))) .nil rfl rfl hn.2.2.1),hn.2.2.2.1,trivial⟩) ⟨rfl,rfl,rfl,rfl,trivial⟩ λz4=>?_;refine mq ?_;refine xr ?_;refine xr ?_;refine xr ?_;refine aq ?_;refine aq ?_;refine aq (nt (aj (sr ?_)));refine mq ?_;refine jb (d5 rfl) ?_;refine nt (cn h (λh=>?_) (λh=>?_))
  .refine sr (mq ?_);refine cq ?_;refine cq ?_;refine aq (nt (rx ?_));cases h;exact aP () [_,_,_] 0 ⟨rfl,rfl,rfl,trivial⟩ rfl
  .refine sk (sr (cq (nt ?_)));refine aE (Z:=Value) (α:=(List Int)) (λz6 x5=>[(8,.rep (.slice (.int .u8)) r2.2.1),(10,.eq z6)]) (λz6 x5=>[.sl z6 3 Ti x5,.inv z4.2 (cy k q3)]) h (λK h=>?_) (λz6 x5 h=>?_)
   .refine sr (fl eU ?_);refine fr 2 ?_;refine lo bQ ?_;refine fH rfl ?_;refine nt (ah (hP (SE.nil 3 Ti) ?_));refine aC (λz8 y7=>[(1,I a1),(2,Pt b1),(7,.eq (.pointer (some ⟨z4.1,0,none⟩))),(8,.rep (.slice (.int .u8)) r2.2.1),(10,.eq z8),(28,I a0.1),(29,I y7.2)]) (λz8 y7=>[.obj b1 25 (.rep am a0),.obj z4.1 135 (ba q3 z4.2),.sl z8 3 Ti y7.1,.inv z4.2 (cy k q3)]) (f7 k a0 a1 r2 q3) k (.slice none 0 0) (([]:(List Int)),0) (λ_=>rfl) h (SE.fin [1,2,0,3] ⟨rfl,rfl,rfl,rfl,rfl,rfl,rfl,trivial⟩ rfl) (λn z8 y7 h=>?_);unfold f7 at h;refine sr (jb (bj rfl) ?_);refine nt (aj (ci h (λh=>?_) (λh=>?_)))
    .refine sk (aE (Z:=Value) (α:=(List Int)) (λe x9=>[(1,I a1),(2,Pt b1),(7,.eq (.pointer (some ⟨z4.1,0,none⟩))),(8,.rep (.slice (.int .u8)) r2.2.1),(10,.eq e),(28,I a0.1),(29,I y7.2)]) (λe x9=>[.obj b1 25 (.rep am a0),.obj z4.1 135 (ba q3 z4.2),.sl e 3 Ti x9,.inv z4.2 (cy k q3)]) h (λK h=>?_) (λe x9 h=>?_))
     .refine ah (sr (mq ?_));refine aq (nt (sr ?_));refine cq (nt ?_);refine aE (Z:=Unit) (α:=Int) (λE j=>[(1,I a1),(2,Pt b1),(7,.eq (.pointer (some ⟨z4.1,0,none⟩))),(8,.rep (.slice (.int .u8)) r2.2.1),(10,.eq z8),(12,I j),(28,I a0.1),(29,I y7.2)]) (λE j=>[.obj b1 25 (.rep am a0),.obj z4.1 135 (ba q3 z4.2),.sl z8 3 Ti y7.1,.inv z4.2 (cy k q3)]) h (λK h=>?_) (λE j h=>?_)
      .refine sr (mq ?_);refine ol Ce ?_;refine fH rfl ?_;refine nt (ah (aC (λD c=>[(1,I a1),(2,Pt b1),(7,.eq (.pointer (some ⟨z4.1,0,none⟩))),(8,.rep (.slice (.int .u8)) r2.2.1),(10,.eq z8),(11,I y7.2),(12,I c.1),(28,I a0.1),(29,I y7.2),(32,.rep (.slice (.int .u8)) r2.2.1),(33,I (r2.2.1.length:Int)),(34,I c.2)]) (λD c=>[.obj b1 25 (.rep am a0),.obj z4.1 135 (ba q3 z4.2),.sl z8 3 Ti y7.1,.inv z4.2 (cy k q3)]) (ir k a0 a1 r2 q3 y7) k () (0,0) (λ_=>rfl) h (SE.fin [0,1,2,3] ⟨rfl,rfl,rfl,rfl,rfl,rfl,rfl,rfl,rfl,rfl,rfl,rfl,trivial⟩ rfl) (λn D c h=>?_)));unfold ir at h;refine sr (jb (bj rfl) ?_);refine nt (aj (ci h (λh=>?_) (λh=>?_)))
       .refine sk (aE (Z:=Unit) (α:=Int) (λy l=>[(1,I a1),(2,Pt b1),(7,.eq (.pointer (some ⟨z4.1,0,none⟩))),(8,.rep (.slice (.int .u8)) r2.2.1),(10,.eq z8),(11,I y7.2),(12,I l),(28,I a0.1),(29,I y7.2),(32,.rep (.slice (.int .u8)) r2.2.1),(33,I (r2.2.1.length:Int)),(34,I c.2)]) (λy l=>[.obj b1 25 (.rep am a0),.obj z4.1 135 (ba q3 z4.2),.sl z8 3 Ti y7.1,.inv z4.2 (cy k q3)]) h (λK h=>?_) (λy l h=>?_))
        .refine ah (sr ?_);obtain⟨We,gw,h⟩:=aa h;refine jb (aD (t:=(.int .u8)) rfl Ce qG gw) ?_;refine ja (ao (t:=(.int .u8)) rfl qG rfl) ?_;refine aq (nt (aj ?_));refine bz ?_;refine dm ?_;refine dm ?_;obtain⟨Wi,zz,h⟩:=aa h;refine QI 1 3 rfl rfl (by kernel_rfl) rfl rfl rfl (bo [.tmp 38,.tmp 39] rfl rfl Gh rfl (qf k q3 z4.1 z4.2 We Wi zz)) ⟨rfl,rfl,trivial⟩ ?_;refine dm ?_;obtain⟨Wn,Y,h⟩:=aa h;refine db (pj (t:=Tr) rfl Kw jT rfl rfl (oL) Y) ?_;refine dm ?_;obtain⟨Wm,X,h⟩:=aa h;refine db (pj (t:=Ti) rfl D1 bQ rfl rfl (λ_=>rfl) X) ?_;refine da (au rfl pC) ?_;refine ea 0 (an rfl bQ ju rfl) ?_;refine df cQ ?_;refine jb (iI rfl) ?_;refine nt (ci h (λh=>?_) (λh=>?_))
         .refine ae (mq ?_);obtain⟨Wc,U,h⟩:=aa h;refine jb (be rfl U) ?_;refine aq (aF (bn ?_));exact jz ((),Wc) h [0,1,2,3]
         .refine aZ (bn ?_);exact jz ((),c.1) h [0,1,2,3]
        .refine ae ?_;obtain⟨Wb,Q,h⟩:=aa h;refine jb (be rfl Q) ?_;refine mq (nl ?_);exact jz ((),(l,Wb)) h [0,1,2,3]
       .refine xa ?_;exact jz ((),c.1) h [0,1,2,3]
      .refine ae ?_;iterate 3 refine mq ?_
       refine ol Ce ?_;refine mq ?_;obtain⟨J,O,h⟩:=aa h;refine jb (eo rfl O) ?_;refine jb (Ej rfl rfl) ?_;refine ja (aV (t:=Ti) [(.tmp 57,_)] [pA j J] rfl rfl cV (.cons rfl .int .nil) rfl rfl) ?_;obtain⟨Wp,mc,h⟩:=aa h;refine fr 2 ?_;refine cR rfl rfl rfl (bp rfl rfl cV (ap mc)) ⟨rfl,rfl,trivial⟩ λWg=>?_;refine aq (aF (bn ?_));exact jz (Wg,y7.1++[pA j J]) h [1,2,0,3]
     .refine ae ?_;obtain⟨Wa,M,h⟩:=aa h;refine jb (be rfl M) ?_;refine mq (nl ?_);exact jz (e,(x9,Wa)) h [0,1,2,3]
    .refine xa ?_;exact jz (z8,y7.1) h [2,3]
   .refine sr (mq ?_);obtain⟨u,qt,h⟩:=aa h;refine ka (kl (N:=[(.tmp 61,.eq z6)]) (ax [.tmp 61] rfl rfl SK rfl (oU k x5 u qt)) (λ_ _ _ hv hn=>⟨(lend hn.1 hv),trivial⟩) (λ_=>⟨rfl,nI⟩)) ?_;refine aq (nt (aj (sr ?_)));iterate 2 refine mq ?_
    refine ol Ce ?_;refine jb (iI rfl) ?_;refine nt (ci h (λh=>?_) (λh=>?_))
    .refine sr (cq ?_);refine cq ?_;refine cq (nt (rx ?_));cases h;exact aP () [_,_,_] 0 ⟨rfl,rfl,rfl,trivial⟩ rfl
    .refine sk (sr ?_);iterate 2 refine mq ?_
     obtain⟨Wh,mw,h⟩:=aa h;refine kb (kl (N:=[(.tmp 67,.eq z6),(.tmp 68,I u)]) (ax [.tmp 67,.tmp 68] rfl rfl SJ rfl (np k x5 u Wh mw)) (λ_ _ _ hv hn=>⟨(lend hn.1 hv),hn.2.1,trivial⟩) (λ_=>⟨rfl,nI⟩)) ?_;refine mq ?_;refine aq ?_;refine aq ?_;refine cq (nt (aA ?_));cases h;exact aP () [_,_,_] 0 ⟨rfl,rfl,rfl,trivial⟩ rfl
def kB(k:Nat)(r7:(List Int)):Nat->((List (List Int))×Int)->Option (List (List Int))
 |0,_=>none
 |n+1,y8=>
  if y8.2 < (r7.length:Int) then((aG r7 y8.2).bind λh=>
  (jJ k h).bind λc=>
  (bS (bi (length y8.1+length [c]))).bind λ_=>
  (ck (y8.2+1)).bind λe=>
  kB k r7 n (y8.1++[c],e)) else(some y8.1)
def rf(k:Nat)(a0:ab):Option ((List (List Int))×Int):=
 (kJ k a0 ([]:(List Int)) ([]:(List Int)) ([]:(List Int)) ([]:(List Int))).bind λr2=>
 gY r2.1 (if¬(r2.2.2=0) then(some (([]:(List (List Int))),r2.2.2)) else(none)) (λq3=>if¬(r2.2.2=0) then(some (([]:(List (List Int))),r2.2.2)) else((((eK k q3 0).bind λr7=>
 kB k r7 k (([]:(List (List Int))),0)):Option ((List (List Int)))).bind λx5=>
 some (x5,0)))
theorem wT(k:Nat)(a0:ab)(r:(List (List Int))×Int)(h:rf k a0=some r):
 co (eu Tryz.prog) 28 [.rep am a0] [] (λ_:Unit=>(bC [.rep (.slice Tl) r.1,I r.2],[])):=by
 unfold rf at h
 replace h:=aX h
 refine co.of 33 Tryz.func28 rfl Tryz.ntmps28 rfl λS w0=>?_
 refine sr ?_
 refine bx λb1=>?_
 refine cq ?_
 refine cq ?_
 refine nt ?_
 refine sr ?_
 refine lo dF ?_
 obtain⟨r2,M,h⟩:=aa h
 have c:=mN k a0 ([]:(List Int)) ([]:(List Int)) ([]:(List Int)) ([]:(List Int)) r2 M
 rcases hr:r2.1 with _ |q3
 .
  rw [hr] at h c;replace h:=wW h;refine aR (Δ:=[]) (F:=_) (λ_ _ _=>ai rfl _) rfl rfl (bR (N:=[(.tmp 11,.rep am a0),(.const (.slice none 0 0),.eq (.slice none 0 0)),(.const (.slice none 0 0),.eq (.slice none 0 0)),(.const (.slice none 0 0),.eq (.slice none 0 0)),(.const (.slice none 0 0),.eq (.slice none 0 0))]) (bo [.tmp 11,.const (.slice none 0 0),.const (.slice none 0 0),.const (.slice none 0 0),.const (.slice none 0 0)] rfl rfl Bm rfl c) λ_ _ _ hn=>⟨hn.1,(aM (t:=Tl) (x:=([]:(List Int))) .nil rfl rfl hn.2.1),(aM (t:=Tl) (x:=([]:(List Int))) .nil rfl rfl hn.2.2.1),(aM (t:=Tl) (x:=([]:(List Int))) .nil rfl rfl hn.2.2.2.1),(aM (t:=Tl) (x:=([]:(List Int))) .nil rfl rfl hn.2.2.2.2.1),trivial⟩) ⟨rfl,rfl,rfl,rfl,rfl,trivial⟩ λ_=>?_;refine mq ?_;refine xr ?_;refine xr ?_;refine xr ?_;refine aq ?_;refine aq ?_;refine aq (nt (aj (sr ?_)));refine mq ?_;refine jb (d5 rfl) ?_;refine nt (cn h (λh=>?_) (λh=>?_))
  .refine sr (mq ?_);refine cq ?_;refine aq (nt (rx ?_));refine bK (eB (t:=(.slice Tl)) (x:=([]:(List (List Int)))) 2 rfl .nil rfl rfl) ?_;cases h;exact rb
  .cases h
 .
  rw [hr] at h c;replace h:=wV h;refine aR (Δ:=[]) (F:=_) (λ_ _ _=>ai rfl _) rfl rfl (bR (N:=[(.tmp 11,.rep am a0),(.const (.slice none 0 0),.eq (.slice none 0 0)),(.const (.slice none 0 0),.eq (.slice none 0 0)),(.const (.slice none 0 0),.eq (.slice none 0 0)),(.const (.slice none 0 0),.eq (.slice none 0 0))]) (bo [.tmp 11,.const (.slice none 0 0),.const (.slice none 0 0),.const (.slice none 0 0),.const (.slice none 0 0)] rfl rfl Bm rfl c) λ_ _ _ hn=>⟨hn.1,(aM (t:=Tl) (x:=([]:(List Int))) .nil rfl rfl hn.2.1),(aM (t:=Tl) (x:=([]:(List Int))) .nil rfl rfl hn.2.2.1),(aM (t:=Tl) (x:=([]:(List Int))) .nil rfl rfl hn.2.2.2.1),(aM (t:=Tl) (x:=([]:(List Int))) .nil rfl rfl hn.2.2.2.2.1),trivial⟩) ⟨rfl,rfl,rfl,rfl,rfl,trivial⟩ λz4=>?_;refine mq ?_;refine xr ?_;refine xr ?_;refine xr ?_;refine aq ?_;refine aq ?_;refine aq (nt (aj (sr ?_)));refine mq ?_;refine jb (d5 rfl) ?_;refine nt (cn h (λh=>?_) (λh=>?_))
  .refine sr (mq ?_);refine cq ?_;refine aq (nt (rx ?_));refine bK (eB (t:=(.slice Tl)) (x:=([]:(List (List Int)))) 2 rfl .nil rfl rfl) ?_;cases h;exact rb
  .refine sk (sr (cq (nt ?_)));refine aE (Z:=Value) (α:=(List (List Int))) (λz6 x5=>[(7,.eq z6)]) (λz6 x5=>[.sl z6 28 Tl x5,.inv z4.2 (cy k q3)]) h (λK h=>?_) (λz6 x5 h=>?_)
   .refine sr (mq ?_);obtain⟨r7,J,h⟩:=aa h;refine fr 1 ?_;refine fr 1 ?_;refine aR (Δ:=[_,_]) (F:=_) (λ_ _ _=>ai rfl _) rfl rfl (bo [.tmp 19,.const (.int .u8 (0))] rfl rfl SH rfl (lw k q3 z4.1 z4.2 0 r7 J)) ⟨rfl,rfl,trivial⟩ λ_=>?_;refine ol Ce ?_;refine fH rfl ?_;refine nt (ah (hP (SE.nil 28 Tl) ?_));refine aC (λz9 y8=>[(7,.eq z9),(20,.rep (.slice (.int .u8)) r7),(21,I (r7.length:Int)),(22,I y8.2)]) (λz9 y8=>[.sl z9 28 Tl y8.1,.inv z4.2 (cy k q3)]) (kB k r7) k (.slice none 0 0) (([]:(List (List Int))),0) (λ_=>rfl) h (SE.fin [0,2] ⟨rfl,rfl,rfl,rfl,trivial⟩ rfl) (λn z9 y8 h=>?_);unfold kB at h;refine sr (jb (bj rfl) ?_);refine nt (aj (ci h (λh=>?_) (λh=>?_)))
    .refine sk (aj (ah (sr ?_)));obtain⟨D,l,h⟩:=aa h;refine jb (aD (t:=(.int .u8)) rfl Ce qG l) ?_;refine ja (ao (t:=(.int .u8)) rfl qG rfl) ?_;refine aq (nt (ae ?_));iterate 2 refine mq ?_
     obtain⟨e,u,h⟩:=aa h;refine ja (ax [.tmp 27] rfl rfl P8 rfl (lj k D e u)) ?_;refine ja (aV (t:=Tl) [(.tmp 28,_)] [e] rfl rfl lT (.cons rfl .rep .nil) rfl rfl) ?_;obtain⟨O,s,h⟩:=aa h;refine cR rfl rfl rfl (bp rfl rfl lT (ap s)) ⟨rfl,rfl,trivial⟩ λE=>?_;refine aq (aF (aI (tn (ae ?_))));obtain⟨y,j,h⟩:=aa h;refine jb (be rfl j) ?_;refine mq (nl ?_);exact jz (E,(y8.1++[e],y)) h [0,1]
    .refine xa ?_;exact jz (z9,y8.1) h [0,1]
   .refine sr (mq ?_);refine aq ?_;refine cq (nt (aA ?_));refine bK (gy [2,7,32] ⟨rfl,rfl,rfl,trivial⟩) ?_;cases h;exact rb
def gq(k:Nat)(a2:Int)(r1:(List (List Int)))(x5:Int):Nat->Int->Option (Except Int Unit)
 |0,_=>none
 |n+1,y6=>
  if y6 < x5 then((aG r1 y6).bind λx8=>
  (aG x8 a2).bind λx9=>
  if 0≤x9 then(some (.error y6)) else((ck (y6+1)).bind λc=>
  gq k a2 r1 x5 n c)) else(some (.ok ()))
def i9(k:Nat)(a0:ab)(a1:Int)(a2:Int):Option Int:=
 (lE k a0 a1).bind λr1=>
 bE (α:=Unit) ((ck ((a0.2.2.2.2.1.length:Int)+1)).bind λx5=>
 gq k a2 r1 x5 k 0) (some) λ_=>
 some (-1:Int)
theorem ma(k:Nat)(a0:ab)(c z_a0:Nat)(a1:Int)(a2:Int)(r:Int)(h:i9 k a0 a1 a2=some r):
 co (eu Tryz.prog) 74 [Pt c,.eq (.int .u8 a1),I a2] [.obj c 135 (ba a0 z_a0),.inv z_a0 (cy k a0)] (λ_:Unit=>(bC [I r],[.obj c 135 (ba a0 z_a0),.inv z_a0 (cy k a0)])):=by
 unfold i9 at h
 replace h:=aX h
 refine co.of 30 Tryz.func74 rfl Tryz.ntmps74 rfl λS w0=>?_
 refine sr ?_
 refine cq ?_
 refine nt ?_
 refine sr ?_
 iterate 2 refine mq ?_
 obtain⟨r1,D,h⟩:=aa h
 have E:=qf k a0 c z_a0 a1 r1 D
 refine fr 1 ?_
 refine fr 1 ?_
 refine aR (Δ:=[_,_]) (F:=_) (λ_ _ _=>ai rfl _) rfl rfl (bo [.tmp 9,.tmp 10] rfl rfl Gh rfl E) ⟨rfl,rfl,trivial⟩ λ_=>?_
 refine aW rfl rfl rfl (bv rfl G4 Jx) trivial λb2=>?_
 refine aO rfl rfl (aN rfl HF rfl rfl rfl) ⟨rfl,rfl,trivial⟩ ?_
 refine eD (kj (t:=(.arr 7 Tr)) (x:=r1) [7] .rep ⟨rfl,trivial⟩) ?_
 refine nt ?_
 refine cS (Z:=Unit) (α:=Unit) (λz4 x3=>[]) (λz4 x3=>[.obj c 135 (ba a0 z_a0),.inv z_a0 (cy k a0)]) (λe=>e=r) h (λe h=>Option.some.inj h) (λK hR h=>?_) (λz4 x3 h=>?_)
 .
  refine sr (mq ?_);refine ja (cU rfl) ?_;refine fl iE ?_;refine fl cj ?_;refine lo fB ?_;refine ol pJ ?_;obtain⟨x5,y,h⟩:=aa h;refine jb (be rfl y) ?_;refine fH rfl ?_;refine nt (ah (aC (λz7 y6=>[(2,I a2),(7,.at (.arr 7 Tr) r1),(18,I x5),(19,I y6)]) (λz7 y6=>[.obj c 135 (ba a0 z_a0),.inv z_a0 (cy k a0)]) (gq k a2 r1 x5) k () 0 (λ_=>rfl) h (SE.fin [0,1] ⟨rfl,rfl,rfl,rfl,trivial⟩ rfl) (λn z7 y6 h=>?_)));unfold gq at h;refine sr (jb (bj rfl) ?_);refine nt (aj (ci h (λh=>?_) (λh=>?_)))
  .refine sk (aj (ah (sr (mq ?_))));refine aq (nt (sr ?_));iterate 2 refine mq ?_
   obtain⟨x8,u,h⟩:=aa h;refine jb (cG (t:=Tr) rfl Kw jT u) ?_;obtain⟨x9,s,h⟩:=aa h;refine jb (cG (t:=Ti) rfl D1 bQ s) ?_;refine ja (ao (t:=Ti) rfl bQ rfl) ?_;refine jb (iI rfl) ?_;refine nt (ci h (λh=>?_) (λh=>?_))
   .refine sr (mq ?_);refine aq (nt (aA (br (bb (bg ?_)))));obtain rfl:=hR _ h;exact aP () [_] 2 ⟨rfl,trivial⟩ rfl
   .refine aZ (aI (tn (ae ?_)));obtain⟨l,j,h⟩:=aa h;refine jb (be rfl j) ?_;refine mq (nl ?_);exact jz ((),l) h [0,1]
  .refine xa ?_;exact jz ((),()) h [0,1]
 .
  refine sr (cq (nt (aA ?_)));cases h;exact aP () [_] 2 ⟨rfl,trivial⟩ rfl
def g9(k:Nat)(r2:(List (List Int)))(y6:Int×Int×(List (eV×eV))):Nat->Int->Option Int
 |0,_=>none
 |n+1,c=>
  ((if 0 < c then((ck (c - 1)).bind λl=>
  (aG r2 l).bind λj=>
  (aG j y6.1).bind λh=>
  some (decide (0≤h))) else(some false)):Option (Bool)).bind λr=>
  if r=true then((ck (c - 1)).bind λe=>
  g9 k r2 y6 n e) else(some c)
def hH(k:Nat)(a0:ab)(r2:(List (List Int))):Nat->(Int×Int×(List (eV×eV)))->Option (List (fU×fU))
 |0,_=>none
 |n+1,y6=>
  bE (α:=Int×Int×(List (eV×eV))) (((g9 k r2 y6 k y6.2.1):Option (Int)).bind λc=>
  if c=0 then((bS (Ad (y6.1,y6.2.1))).bind λ_=>
  some (.error (Dm y6.2.2 (y6.1,y6.2.1) ((-1:Int),0)))) else((ck (c - 1)).bind λr=>
  (aG r2 r).bind λl=>
  (ck (c - 1)).bind λj=>
  (dH k a0 l y6.1 j).bind λh=>
  (ck (c - 1)).bind λe=>
  (bS (Ad (y6.1,y6.2.1))).bind λ_=>
  some (.ok (h,e,Dm y6.2.2 (y6.1,y6.2.1) (h,e))))) (some) λx8=>
  hH k a0 r2 n (x8.1,x8.2.1,x8.2.2)
def mf(k:Nat)(a0:ab)(a1:Int)(a2:fU):Option (List (fU×fU)):=
 (lE k a0 a1).bind λr2=>
 hH k a0 r2 k (a2.1,a2.2,([]:List (eV×eV)))
theorem sc(k:Nat)(a0:ab)(c z_a0:Nat)(a1:Int)(a2:fU)(r:(List (fU×fU)))(h:mf k a0 a1 a2=some r):
 co (eu Tryz.prog) 79 [Pt c,.eq (.int .u8 a1),.rep bV a2] [.obj c 135 (ba a0 z_a0),.inv z_a0 (cy k a0)] (λz:Nat=>(bC [.eq (.map (some z))],[.inv z (ui r),.obj c 135 (ba a0 z_a0),.inv z_a0 (cy k a0)])):=by
 unfold mf at h
 replace h:=aX h
 refine co.of 56 Tryz.func79 rfl Tryz.ntmps79 rfl λS w0=>?_
 refine sr ?_
 refine bx λb1=>?_
 refine cq ?_
 refine nt ?_
 refine sr ?_
 iterate 2 refine mq ?_
 obtain⟨r2,WB,h⟩:=aa h
 have WC:=qf k a0 c z_a0 a1 r2 WB
 refine fr 2 ?_
 refine fr 2 ?_
 refine aR (Δ:=[_,_]) (F:=_) (λ_ _ _=>ai rfl _) rfl rfl (bo [.tmp 12,.tmp 13] rfl rfl Gh rfl WC) ⟨rfl,rfl,trivial⟩ λ_=>?_
 refine aW rfl rfl rfl (bv rfl G4 Jx) trivial λb3=>?_
 refine aO rfl rfl (aN rfl HF rfl rfl rfl) ⟨rfl,rfl,trivial⟩ ?_
 refine eD (kj (t:=(.arr 7 Tr)) (x:=r2) [7] .rep ⟨rfl,trivial⟩) ?_
 refine nt ?_
 refine sr ?_
 refine aW rfl rfl rfl (xt rfl) trivial λz4=>?_
 refine eD (tU (ui []) KU) ?_
 refine aq ?_
 refine nt ?_
 refine sr ?_
 refine aW rfl rfl rfl (bv rfl tZ BJ) trivial λb5=>?_
 refine nt ?_
 refine sr ?_
 refine fl zf ?_
 refine aO rfl rfl (aN rfl bQ rfl rfl rfl) ⟨rfl,rfl,trivial⟩ ?_
 refine nt ?_
 refine ah ?_
 refine dI 4 rfl ?_
 refine hP (iF (a:=.rep bV a2) (a':=.agg (.pair (I a2.1) (I a2.2))) (AE.trans Ft (AE.agg (AE.trans BX (AE.pair AE.int AE.int))))) ?_
 refine aC (λz7 y6=>[(0,Pt c),(5,Pt b1),(7,.at (.arr 7 Tr) r2),(8,.eq (.map (some z4))),(9,Pt b5)]) (λz7 y6=>[.obj c 135 (ba a0 z_a0),.obj b1 110 (.agg (.pair (I y6.1) (I y6.2.1))),.obj b5 110 (.agg (.pair (I (-1:Int)) (I 0))),.inv z_a0 (cy k a0),.inv z4 (ui y6.2.2)]) (hH k a0 r2) k () (a2.1,a2.2,([]:List (eV×eV))) (λ_=>rfl) h (SE.fin [3,0,1,4,2] ⟨rfl,rfl,rfl,rfl,rfl,trivial⟩ rfl) (λn z7 y6 h=>?_)
 unfold hH at h
 refine J1 (Z:=Unit) (α:=Int×Int×(List (eV×eV))) (λz9 x8=>[(0,Pt c),(5,Pt b1),(7,.at (.arr 7 Tr) r2),(8,.eq (.map (some z4))),(9,Pt b5)]) (λz9 x8=>[.obj c 135 (ba a0 z_a0),.obj b1 110 (.agg (.pair (I x8.1) (I x8.2.1))),.obj b5 110 (.agg (.pair (I (-1:Int)) (I 0))),.inv z_a0 (cy k a0),.inv z4 (ui x8.2.2)]) (λe=>e=r) h (λe h=>Option.some.inj h) (λK hR h=>?_) (λz9 x8 h=>?_)
 .
  refine ah (sr (fl MN ?_));refine fr 1 ?_;refine lo bQ ?_;refine aq (nt ?_);refine aE (Z:=Unit) (α:=Int) (λO D=>[(0,Pt c),(5,Pt b1),(7,.at (.arr 7 Tr) r2),(8,.eq (.map (some z4))),(9,Pt b5),(10,I D)]) (λO D=>[.obj c 135 (ba a0 z_a0),.obj b1 110 (.agg (.pair (I y6.1) (I y6.2.1))),.obj b5 110 (.agg (.pair (I (-1:Int)) (I 0))),.inv z_a0 (cy k a0),.inv z4 (ui y6.2.2)]) h (λK h=>?_) (λO D h=>?_)
  .refine ah (aC (λM s=>[(0,Pt c),(5,Pt b1),(7,.at (.arr 7 Tr) r2),(8,.eq (.map (some z4))),(9,Pt b5),(10,I s)]) (λM s=>[.obj c 135 (ba a0 z_a0),.obj b1 110 (.agg (.pair (I y6.1) (I y6.2.1))),.obj b5 110 (.agg (.pair (I (-1:Int)) (I 0))),.inv z_a0 (cy k a0),.inv z4 (ui y6.2.2)]) (g9 k r2 y6) k () y6.2.1 (λ_=>rfl) h (SE.fin [1,0,2,3,4] ⟨rfl,rfl,rfl,rfl,rfl,rfl,trivial⟩ rfl) (λn M s h=>?_));unfold g9 at h;refine aj (aE (Z:=Unit) (α:=Bool) (λJ y=>[(0,Pt c),(5,Pt b1),(7,.at (.arr 7 Tr) r2),(8,.eq (.map (some z4))),(9,Pt b5),(10,I s),(30,.eq (.bool y))]) (λJ y=>[.obj c 135 (ba a0 z_a0),.obj b1 110 (.agg (.pair (I y6.1) (I y6.2.1))),.obj b5 110 (.agg (.pair (I (-1:Int)) (I 0))),.inv z_a0 (cy k a0),.inv z4 (ui y6.2.2)]) h (λK h=>?_) (λJ y h=>?_))
   .refine bz ?_;refine dm ?_;refine db (jm rfl) ?_;refine mX rfl rfl rfl (aY rfl) ⟨rfl,trivial⟩ (λhb=>?_) (λhb=>?_)
    .replace h:=ee (vM hb) h;refine bB rfl rfl rfl rfl rfl (aY rfl) ⟨rfl,rfl,trivial⟩ ?_;obtain⟨WN,We,h⟩:=aa h;refine bB rfl rfl rfl rfl rfl (eo rfl We) ⟨rfl,rfl,rfl,trivial⟩ ?_;refine bB rfl rfl rfl rfl rfl (au rfl zf) ⟨rfl,rfl,trivial⟩ ?_;refine ia 1 rfl rfl rfl rfl rfl rfl (an rfl bQ ju rfl) ⟨rfl,rfl,trivial⟩ ?_;obtain⟨WM,Wc,h⟩:=aa h;refine bB rfl rfl rfl rfl rfl (cG (t:=Tr) rfl Kw jT Wc) ⟨rfl,rfl,rfl,trivial⟩ ?_;refine df cQ ?_;obtain⟨Wp,Wb,h⟩:=aa h;refine gb (cG (t:=Ti) rfl D1 bQ Wb) ?_;refine ga (ao (t:=Ti) rfl bQ rfl) ?_;refine gb (iI rfl) ?_;refine pt (nl ?_);exact jz ((),decide (0≤Wp)) h [0,1,2,3,4]
    .replace h:=cK (vO hb) h;iterate 5 refine dg ?_
     refine df cQ ?_;iterate 3 refine gn ?_
     refine pf (nl ?_);exact jz ((),false) h [0,1,2,3,4]
   .refine cv h (λh=>?_) (λh=>?_)
    .refine sk (ah (ae (mq ?_)));obtain⟨Wn,Wa,h⟩:=aa h;refine jb (eo rfl Wa) ?_;refine aq (aF (bn ?_));exact jz ((),Wn) h [0,1,2,3,4]
    .refine xa ?_;exact jz ((),s) h [0,1,2,3,4]
  .refine aj (sr (mq ?_));refine jb (jE rfl) ?_;refine nt (ci h (λh=>?_) (λh=>?_))
   .refine sr (mq ?_);refine fr 1 ?_;refine lo kF ?_;refine fr 2 ?_;refine lo kF ?_;refine eD (eB (t:=bV) (x:=(y6.1,y6.2.1)) 36 rfl (.agg (.pair .int .int)) trivial rfl) ?_;obtain⟨W3,Wh,h⟩:=aa h;refine eD (eB (t:=bV) (x:=((-1:Int),0)) 37 rfl (.agg (.pair .int .int)) trivial rfl) ?_;refine fr 4 ?_;refine aO rfl rfl (rV (K:=lR) (V:=lR) (t:=(y6.1,y6.2.1)) (n:=((-1:Int),0)) (l:=y6.2.2) (λ_ _ _ h=>nQ h) rfl GL nk (λ_ _ _ h=>nQ h) (rK (ap Wh)) (rJ _) rL) ⟨rfl,rfl,rfl,trivial⟩ ?_;refine nt (sr (mq ?_));refine aq (nt (rx (br (bb ?_))));refine bK (SE.fin (Γ':=[(6,_)]) [0,3,4,1,2] ⟨rfl,trivial⟩ rfl) ?_;obtain rfl:=hR _ h;exact aP z4 [.eq (.map (some z4))] 3 ⟨rfl,trivial⟩ rfl
   .refine sk (aj (sL ?_));refine bX rfl rfl rfl (aY rfl) ⟨rfl,trivial⟩ ?_;refine bX rfl rfl rfl (aY rfl) ⟨rfl,trivial⟩ ?_;obtain⟨WL,zz,h⟩:=aa h;refine bX rfl rfl rfl (eo rfl zz) ⟨rfl,rfl,trivial⟩ ?_;obtain⟨Wm,qt,h⟩:=aa h;refine bX rfl rfl rfl (cG (t:=Tr) rfl Kw jT qt) ⟨rfl,rfl,trivial⟩ ?_;refine bX rfl rfl rfl (ao (t:=Tr) rfl jT rfl) ⟨rfl,trivial⟩ ?_;refine bX rfl rfl rfl (au rfl zf) ⟨rfl,trivial⟩ ?_;refine iN 1 rfl rfl rfl rfl (an rfl bQ ju rfl) ⟨rfl,trivial⟩ ?_;refine bX rfl rfl rfl (aY rfl) ⟨rfl,trivial⟩ ?_;obtain⟨Wj,mw,h⟩:=aa h;refine bX rfl rfl rfl (eo rfl mw) ⟨rfl,rfl,trivial⟩ ?_;obtain⟨j,Wi,h⟩:=aa h;refine iN 0 rfl rfl rfl rfl (ax [.tmp 39,.tmp 43,.tmp 45,.tmp 47] rfl rfl Ox rfl (oI k a0 c z_a0 Wm y6.1 Wj j Wi)) ⟨rfl,rfl,rfl,rfl,trivial⟩ ?_;refine bX rfl rfl rfl (aY rfl) ⟨rfl,trivial⟩ ?_;obtain⟨u,mc,h⟩:=aa h;refine bX rfl rfl rfl (eo rfl mc) ⟨rfl,rfl,trivial⟩ ?_;refine bX rfl rfl rfl (eC [(0,.tmp 48,_),(1,.tmp 50,_)] rfl Ie tZ DT (kG ⟨rfl,rfl,trivial⟩) rfl) ⟨rfl,rfl,trivial⟩ ?_;refine NW (Pz 110 (.agg (.pair (I 0) (I 0)))) (λ_=>rfl) rfl rfl rfl (bv rfl tZ BJ) trivial ?_;refine wl 14 [true,true,true,true,true,true,true,true,true,true,true,true,true,true] [] [] [] rfl (by kernel_rfl) (by kernel_rfl) (by kernel_rfl) cQ (λvs hv hB=>?_);obtain⟨w0,W1,rfl,WA⟩:=aH hv;obtain⟨w1,W0,rfl,Wz⟩:=aH WA;obtain⟨w2,WZ,rfl,Wy⟩:=aH Wz;obtain⟨w3,WY,rfl,Wx⟩:=aH Wy;obtain⟨w4,WX,rfl,Wv⟩:=aH Wx;obtain⟨w5,WW,rfl,Wu⟩:=aH Wv;obtain⟨w6,WU,rfl,Wt⟩:=aH Wu;obtain⟨w7,WT,rfl,Ws⟩:=aH Wt;obtain⟨w8,WS,rfl,Wq⟩:=aH Ws;obtain⟨w9,WJ,rfl,gw⟩:=aH Wq;obtain⟨WR,WI,rfl,Y⟩:=aH gw;obtain⟨WQ,WH,rfl,X⟩:=aH Y;obtain⟨WP,WG,rfl,U⟩:=aH X;obtain⟨WO,WE,rfl,Q⟩:=aH U;obtain rfl:=sj Q;obtain⟨E,rfl⟩:=Py hB.2.2.2.2.2.2.2.2.2.2.2.2.2.1;refine⟨[0,1,2,3,4,5],[.obj c 135 (ba a0 z_a0),.obj b1 110 (.agg (.pair (I y6.1) (I y6.2.1))),.obj b5 110 (.agg (.pair (I (-1:Int)) (I 0))),.inv z_a0 (cy k a0),.inv z4 (ui y6.2.2),.obj E 110 (.agg (.pair (I 0) (I 0)))],by kernel_rfl,by decide,?_⟩;refine sJ 5 rfl ?_;refine tV rfl rfl (aN rfl kF trivial rfl rfl) ⟨rfl,rfl,trivial⟩ (by kernel_rfl) ?_;refine zG ?_;refine bK (SE.fin (Γ':=[(0,Pt c),(5,Pt b1),(7,.at (.arr 7 Tr) r2),(8,.eq (.map (some z4))),(9,Pt b5),(11,Pt E)]) (Δ':=[.obj E 110 (.agg (.pair (I j) (I u))),.obj c 135 (ba a0 z_a0),.obj b1 110 (.agg (.pair (I y6.1) (I y6.2.1))),.obj b5 110 (.agg (.pair (I (-1:Int)) (I 0))),.inv z_a0 (cy k a0),.inv z4 (ui y6.2.2)]) [0,1,2,3,4,5] ⟨rfl,rfl,rfl,rfl,rfl,rfl,trivial⟩ rfl) ?_;refine tn (sr (mq ?_));refine fr 2 ?_;refine lo kF ?_;refine fr 1 ?_;refine lo kF ?_;refine eD (eB (t:=bV) (x:=(y6.1,y6.2.1)) 53 rfl (.agg (.pair .int .int)) trivial rfl) ?_;obtain⟨W2,Wg,h⟩:=aa h;refine eD (eB (t:=bV) (x:=(j,u)) 54 rfl (.agg (.pair .int .int)) trivial rfl) ?_;refine fr 5 ?_;refine aO rfl rfl (rV (K:=lR) (V:=lR) (t:=(y6.1,y6.2.1)) (n:=(j,u)) (l:=y6.2.2) (λ_ _ _ h=>nQ h) rfl GL nk (λ_ _ _ h=>nQ h) (rK (ap Wg)) (rJ _) rL) ⟨rfl,rfl,rfl,trivial⟩ ?_
    refine nt (ae (fr 1 ?_));refine lo kF ?_;refine fr 2 ?_;refine aO rfl rfl (aN rfl kF trivial rfl rfl) ⟨rfl,rfl,trivial⟩ ?_;refine aF (bn ?_);exact jz ((),(j,u,Dm y6.2.2 (y6.1,y6.2.1) (j,u))) h [3,0,4,5,2]
 .
  refine av ?_;exact jz ((),(x8.1,x8.2.1,x8.2.2)) h [0,1,2,3,4]
def lD(k:Nat)(r7:(List (fU×fU))):Nat->(Int×Int×(List Int))->Option (List Int)
 |0,_=>none
 |n+1,c=>
  (bS (Ad (c.1,c.2.1))).bind λ_=>
  if¬((oc r7 (c.1,c.2.1) (0,0))=((-1:Int),0)) then((bS (Ad (c.1,c.2.1))).bind λ_=>
  (bS (bi (length c.2.2+length [(oc r7 (c.1,c.2.1) (0,0)).1]))).bind λ_=>
  (bS (Ad (c.1,c.2.1))).bind λ_=>
  lD k r7 n ((oc r7 (c.1,c.2.1) (0,0)).1,(oc r7 (c.1,c.2.1) (0,0)).2,c.2.2++[(oc r7 (c.1,c.2.1) (0,0)).1])) else(some c.2.2)
def tj(k:Nat)(a0:ab)(a1:(List Int))(a2:Int):Option ((List Int)×Int):=
 (kJ k a0 a1 [a2] ([]:(List Int)) ([]:(List Int))).bind λr2=>
 gY r2.1 (if¬(r2.2.2=0) then(some (([]:(List Int)),r2.2.2)) else(none)) (λq3=>if¬(r2.2.2=0) then(some (([]:(List Int)),r2.2.2)) else((i9 k q3 r2.2.1 a2).bind λr5=>
 if r5 < 0 then(some (([]:(List Int)),11)) else((mf k q3 r2.2.1 (a2,r5)).bind λr7=>
 ((lD k r7 k (a2,r5,[a2])):Option ((List Int))).bind λc=>
 (kY k c).bind λe=>
 some (e,0))))
theorem yS(k:Nat)(a0:ab)(a1:(List Int))(a2:Int)(r:(List Int)×Int)(h:tj k a0 a1 a2=some r):
 co (eu Tryz.prog) 38 [.rep am a0,.rep Tl a1,I a2] [] (λ_:Unit=>(bC [.rep Tl r.1,I r.2],[])):=by
 unfold tj at h
 replace h:=aX h
 refine co.of 64 Tryz.func38 rfl Tryz.ntmps38 rfl λS w0=>?_
 refine sr ?_
 refine bx λb1=>?_
 refine cq ?_
 refine cq ?_
 refine nt ?_
 refine sr ?_
 refine lo dF ?_
 iterate 2 refine mq ?_
 refine ja (aV (t:=Ti) [(.tmp 19,_)] [a2] rfl rfl cV (.cons rfl .int .nil) rfl rfl) ?_
 obtain⟨r2,Y,h⟩:=aa h
 have u:=mN k a0 a1 [a2] ([]:(List Int)) ([]:(List Int)) r2 Y
 rcases hr:r2.1 with _ |q3
 .
  rw [hr] at h u;replace h:=wW h;refine aR (Δ:=[]) (F:=_) (λ_ _ _=>ai rfl _) rfl rfl (bR (N:=[(.tmp 17,.rep am a0),(.tmp 18,.rep Tl a1),(.tmp 20,.rep Tl [a2]),(.const (.slice none 0 0),.eq (.slice none 0 0)),(.const (.slice none 0 0),.eq (.slice none 0 0))]) (bo [.tmp 17,.tmp 18,.tmp 20,.const (.slice none 0 0),.const (.slice none 0 0)] rfl rfl Bm rfl u) λ_ _ _ hn=>⟨hn.1,hn.2.1,hn.2.2.1,(aM (t:=Tl) (x:=([]:(List Int))) .nil rfl rfl hn.2.2.2.1),(aM (t:=Tl) (x:=([]:(List Int))) .nil rfl rfl hn.2.2.2.2.1),trivial⟩) ⟨rfl,rfl,rfl,rfl,rfl,trivial⟩ λ_=>?_;refine mq ?_;refine xr ?_;refine xr ?_;refine xr ?_;refine aq ?_;refine aq ?_;refine aq (nt (aj (sr ?_)));refine mq ?_;refine jb (d5 rfl) ?_;refine nt (cn h (λh=>?_) (λh=>?_))
  .refine sr (mq ?_);refine cq ?_;refine aq (nt (rx ?_));refine bK (eB (t:=Tl) (x:=([]:(List Int))) 6 rfl .nil rfl rfl) ?_;cases h;exact rb
  .cases h
 .
  rw [hr] at h u;replace h:=wV h;refine aR (Δ:=[]) (F:=_) (λ_ _ _=>ai rfl _) rfl rfl (bR (N:=[(.tmp 17,.rep am a0),(.tmp 18,.rep Tl a1),(.tmp 20,.rep Tl [a2]),(.const (.slice none 0 0),.eq (.slice none 0 0)),(.const (.slice none 0 0),.eq (.slice none 0 0))]) (bo [.tmp 17,.tmp 18,.tmp 20,.const (.slice none 0 0),.const (.slice none 0 0)] rfl rfl Bm rfl u) λ_ _ _ hn=>⟨hn.1,hn.2.1,hn.2.2.1,(aM (t:=Tl) (x:=([]:(List Int))) .nil rfl rfl hn.2.2.2.1),(aM (t:=Tl) (x:=([]:(List Int))) .nil rfl rfl hn.2.2.2.2.1),trivial⟩) ⟨rfl,rfl,rfl,rfl,rfl,trivial⟩ λz4=>?_;refine mq ?_;refine xr ?_;refine xr ?_;refine xr ?_;refine aq ?_;refine aq ?_;refine aq (nt (aj (sr ?_)));refine mq ?_;refine jb (d5 rfl) ?_;refine nt (cn h (λh=>?_) (λh=>?_))
  .refine sr (mq ?_);refine cq ?_;refine aq (nt (rx ?_));refine bK (eB (t:=Tl) (x:=([]:(List Int))) 6 rfl .nil rfl rfl) ?_;cases h;exact rb
  .refine sk (sr ?_);iterate 3 refine mq ?_
   obtain⟨r5,X,h⟩:=aa h;refine fr 1 ?_;refine fr 1 ?_;refine aR (Δ:=[_,_]) (F:=_) (λ_ _ _=>ai rfl _) rfl rfl (bo [.tmp 28,.tmp 29,.tmp 30] rfl rfl SG rfl (ma k q3 z4.1 z4.2 r2.2.1 a2 r5 X)) ⟨rfl,rfl,rfl,trivial⟩ λ_=>?_;refine aq (nt (aj (sr ?_)));refine mq ?_;refine jb (bj rfl) ?_;refine nt (ci h (λh=>?_) (λh=>?_))
   .refine sr (cq ?_);refine cq (nt (rx ?_));refine bK (eB (t:=Tl) (x:=([]:(List Int))) 6 rfl .nil rfl rfl) ?_;cases h;exact rb
   .refine sk (sr ?_);iterate 2 refine mq ?_
    refine jb (eC [(0,.tmp 34,_),(1,.tmp 35,_)] rfl Ie tZ DT (kG ⟨rfl,rfl,trivial⟩) rfl) ?_;refine aW rfl rfl rfl (bv rfl tZ BJ) trivial λb6=>?_;refine aO rfl rfl (aN rfl kF trivial rfl rfl) ⟨rfl,rfl,trivial⟩ ?_;refine nt (sr ?_);iterate 2 refine mq ?_
    refine lo kF ?_;obtain⟨r7,U,h⟩:=aa h;refine fr 2 ?_;refine fr 2 ?_;refine aR (Δ:=[_,_]) (F:=_) (λ_ _ _=>ai rfl _) rfl rfl (bR (N:=[(.tmp 37,.eq (.pointer (some ⟨z4.1,0,none⟩))),(.tmp 38,.eq (.int .u8 r2.2.1)),(.tmp 39,.agg (.pair (I a2) (I r5)))]) (bo [.tmp 37,.tmp 38,.tmp 39] rfl rfl UZ rfl (sc k q3 z4.1 z4.2 r2.2.1 (a2,r5) r7 U)) λ_ _ _ hn=>⟨hn.1,hn.2.1,(aM (t:=bV) (x:=(a2,r5)) (.agg (.pair .int .int)) trivial rfl hn.2.2.1),trivial⟩) ⟨rfl,rfl,rfl,trivial⟩ λz8=>?_;refine aq (nt (sr ?_));refine mq ?_;refine aW rfl rfl rfl (im (t:=Ti) [(.tmp 41,_)] [a2] rfl rfl cV (.cons rfl .int .nil) rfl rfl) ⟨rfl,trivial⟩ λv9=>?_;refine aq (nt ?_);refine aE (Z:=Value) (α:=(List Int)) (λj s=>[(13,.eq (.map (some z8))),(14,.eq j)]) (λj s=>[.sl j 3 Ti s,.inv z4.2 (cy k q3),.inv z8 (ui r7)]) h (λK h=>?_) (λj s h=>?_)
    .refine sr (ja (eC [(0,.const (.int .i64 (-1)),_)] rfl Ie tZ DT (kG ⟨rfl,trivial⟩) rfl) ?_);refine aW rfl rfl rfl (bv rfl tZ BJ) trivial λmc=>?_;refine aO rfl rfl (aN rfl kF trivial rfl rfl) ⟨rfl,rfl,trivial⟩ ?_;refine nt (ah (aC (λe c=>[(12,Pt b6),(13,.eq (.map (some z8))),(14,.eq e.1),(15,.eq (.pointer (some ⟨e.2,0,none⟩)))]) (λe c=>[.obj b6 110 (.agg (.pair (I c.1) (I c.2.1))),.sl e.1 3 Ti c.2.2,.obj e.2 110 (.agg (.pair (I (-1:Int)) (I 0))),.inv z4.2 (cy k q3),.inv z8 (ui r7)]) (lD k r7) k (v9,mc) (a2,r5,[a2]) (λ_=>rfl) h (SE.fin [5,1,0,4,2] ⟨rfl,rfl,rfl,rfl,trivial⟩ rfl) (λn e c h=>?_)));unfold lD at h;refine aj (aj (bz ?_));refine dm ?_;refine ea 0 (an rfl kF (oL) rfl) ?_;obtain⟨zz,J,h⟩:=aa h;refine eb 4 (bR (N:=[(.tmp 44,.eq (.map (some z8))),(.tmp 45,.agg (.pair (I c.1) (I c.2.1)))]) (s6 (K:=lR) (V:=lR) (t:=(c.1,c.2.1)) (l:=r7) (λn=>.rep bV n) uU rfl GL (0,0) uT nk (λ_ _ _ h=>nQ h) (rK (ap J)) (rJ _) rL) λ_ _ _ hn=>⟨hn.1,(aM (t:=bV) (x:=(c.1,c.2.1)) (.agg (.pair .int .int)) trivial rfl hn.2.1),trivial⟩) ?_;refine ea 2 (an rfl kF (oL) rfl) ?_;refine df cQ ?_;refine eD (eB (t:=bV) (x:=((-1:Int),0)) 47 rfl (.agg (.pair .int .int)) trivial rfl) ?_;refine jb (Ik rfl Sr rfl) ?_;refine nt (cn h (λh=>?_) (λh=>?_))
     .refine sk (aj (ah (ae ?_)));iterate 2 refine mq ?_
      refine lo kF ?_;refine eD (eB (t:=bV) (x:=(c.1,c.2.1)) 54 rfl (.agg (.pair .int .int)) trivial rfl) ?_;obtain⟨u16,E,h⟩:=aa h;refine fr 4 ?_;refine kb (bR (N:=[(.tmp 53,.eq (.map (some z8))),(.tmp 54,.rep bV (c.1,c.2.1))]) (s6 (K:=lR) (V:=lR) (t:=(c.1,c.2.1)) (l:=r7) (λn=>.rep bV n) uU rfl GL (0,0) uT nk (λ_ _ _ h=>nQ h) (rK (ap E)) (rJ _) rL) λ_ _ _ hn=>⟨hn.1,hn.2.1,trivial⟩) ?_;refine ja (Ly rfl VB rfl bQ (λ_=>rfl) rfl rfl rfl) ?_;refine ja (aV (t:=Ti) [(.tmp 56,_)] [(oc r7 (c.1,c.2.1) (0,0)).1] rfl rfl cV (.cons rfl .int .nil) rfl rfl) ?_;obtain⟨qt,D,h⟩:=aa h;refine fr 2 ?_;refine cR rfl rfl rfl (bp rfl rfl cV (ap D)) ⟨rfl,rfl,trivial⟩ λO=>?_;refine aq (aF (aI (tn (aj (sr ?_)))));refine fr 3 ?_;refine lo kF ?_;refine nt (ae (aW rfl rfl rfl (bv rfl tZ BJ) trivial λgw=>?_));refine aO rfl rfl (aN rfl kF trivial rfl rfl) ⟨rfl,rfl,trivial⟩ ?_;refine nt (ae (mq ?_));refine fr 4 ?_;refine lo kF ?_;refine eD (eB (t:=bV) (x:=(c.1,c.2.1)) 50 rfl (.agg (.pair .int .int)) trivial rfl) ?_;obtain⟨mw,y,h⟩:=aa h;refine fr 4 ?_;refine kb (bR (N:=[(.tmp 49,.eq (.map (some z8))),(.tmp 50,.rep bV (c.1,c.2.1))]) (s6 (K:=lR) (V:=lR) (t:=(c.1,c.2.1)) (l:=r7) (λn=>.rep bV n) uU rfl GL (0,0) uT nk (λ_ _ _ h=>nQ h) (rK (ap y)) (rJ _) rL) λ_ _ _ hn=>⟨hn.1,hn.2.1,trivial⟩) ?_;refine fr 1 ?_;refine aO rfl rfl (aN rfl kF rfl rfl rfl) ⟨rfl,rfl,trivial⟩ ?_;refine nl (bK (iF (a:=.rep bV (oc r7 (c.1,c.2.1) (0,0))) (a':=.agg (.pair (I ((oc r7 (c.1,c.2.1) (0,0)).1)) (I ((oc r7 (c.1,c.2.1) (0,0)).2)))) (AE.trans Ft (AE.agg (AE.trans BX (AE.pair AE.int AE.int))))) ?_);exact jz ((O,gw),((oc r7 (c.1,c.2.1) (0,0)).1,(oc r7 (c.1,c.2.1) (0,0)).2,c.2.2++[(oc r7 (c.1,c.2.1) (0,0)).1])) h [0,4,2,5,1]
     .refine xa ?_;exact jz (e.1,c.2.2) h [1,3,4]
    .refine sr (mq ?_);refine fr 2 ?_;refine aO rfl rfl (Io rfl rfl GL) ⟨rfl,trivial⟩ ?_;refine nt (sr (mq ?_));obtain⟨Q,M,h⟩:=aa h;refine fr 1 ?_;refine ka (ax [.tmp 61] rfl rfl UY rfl (qJ k s j Q M)) ?_;refine nt (sr (mq ?_));refine aq ?_;refine cq (nt (aA ?_));refine bK (gy [6,14,61,63] ⟨rfl,rfl,rfl,rfl,trivial⟩) ?_;cases h;exact rb
def lC(k:Nat)(a1:Int)(r3:(Option ab)×(List Int)×Int)(q4:ab):Nat->((List Int)×Int)->Option (List Int)
 |0,_=>none
 |n+1,y8=>
  if y8.2 < (r3.2.1.length:Int) then((((aG r3.2.1 y8.2).bind λh=>
  (i9 k q4 h a1).bind λc=>
  if 0≤c then((bS (bi (length y8.1+length [c]))).bind λ_=>
  some (y8.1++[c])) else(some y8.1)):Option ((List Int))).bind λj=>
  (ck (y8.2+1)).bind λe=>
  lC k a1 r3 q4 n (j,e)) else(some y8.1)
def ti(k:Nat)(a0:ab)(a1:Int):Option (fU×Int):=
 (jZ k a0 [a1] ([]:(List Int)) ([]:(List Int))).bind λr3=>
 gY r3.1 (if¬(r3.2.2=0) then(some ((0,0),r3.2.2)) else(none)) (λq4=>if¬(r3.2.2=0) then(some ((0,0),r3.2.2)) else(((lC k a1 r3 q4 k (([]:(List Int)),0)):Option ((List Int))).bind λx6=>
 if(x6.length:Int)=0 then(some ((0,0),11)) else((jl k x6).bind λe=>
 (oV k x6).bind λc=>
 some ((e,c),0))))
theorem yQ(k:Nat)(a0:ab)(a1:Int)(r:fU×Int)(h:ti k a0 a1=some r):
 co (eu Tryz.prog) 42 [.rep am a0,I a1] [] (λ_:Unit=>(bC [.rep bV r.1,I r.2],[])):=by
 unfold ti at h
 replace h:=aX h
 refine co.of 51 Tryz.func42 rfl Tryz.ntmps42 rfl λS w0=>?_
 refine sr ?_
 refine bx λb1=>?_
 refine aW rfl rfl rfl (bv rfl Ci TB) trivial λb2=>?_
 refine cq ?_
 refine nt ?_
 refine sr ?_
 refine fr 1 ?_
 refine lo dF ?_
 refine mq ?_
 refine ja (aV (t:=Ti) [(.tmp 15,_)] [a1] rfl rfl cV (.cons rfl .int .nil) rfl rfl) ?_
 obtain⟨r3,Y,h⟩:=aa h
 have s:=nX k a0 [a1] ([]:(List Int)) ([]:(List Int)) r3 Y
 rcases hr:r3.1 with _ |q4
 .
  rw [hr] at h s;replace h:=wW h;refine aR (Δ:=[]) (F:=_) (λ_ _ _=>ai rfl _) rfl rfl (bR (N:=[(.tmp 14,.rep am a0),(.tmp 16,.rep Tl [a1]),(.const (.slice none 0 0),.eq (.slice none 0 0)),(.const (.slice none 0 0),.eq (.slice none 0 0))]) (bo [.tmp 14,.tmp 16,.const (.slice none 0 0),.const (.slice none 0 0)] rfl rfl Gf rfl s) λ_ _ _ hn=>⟨hn.1,hn.2.1,(aM (t:=Tl) (x:=([]:(List Int))) .nil rfl rfl hn.2.2.1),(aM (t:=Tl) (x:=([]:(List Int))) .nil rfl rfl hn.2.2.2.1),trivial⟩) ⟨rfl,rfl,rfl,rfl,trivial⟩ λ_=>?_;refine mq ?_;refine xr ?_;refine xr ?_;refine xr ?_;refine aq ?_;refine aq ?_;refine aq (nt (aj (sr ?_)));refine mq ?_;refine jb (d5 rfl) ?_;refine nt (cn h (λh=>?_) (λh=>?_))
  .refine sr (cz rfl (eC [] rfl Ic Ci BI (kG trivial) rfl) trivial ?_);refine mq ?_;refine fr 1 ?_;refine aO rfl rfl (aN rfl wF trivial rfl rfl) ⟨rfl,rfl,trivial⟩ ?_;refine aq (nt (rx ?_));refine bK (iF (a:=.agg (.pair (I 0) (I 0))) (a':=.rep bV (0,0)) (kp (.agg (.pair .int .int)))) ?_;cases h;exact aP () [.rep bV (0,0),_] 0 ⟨⟨_,_,_,_,_,rfl,(.head _),wF,(oL),rfl⟩,rfl,trivial⟩ rfl
  .cases h
 .
  rw [hr] at h s;replace h:=wV h;refine aR (Δ:=[]) (F:=_) (λ_ _ _=>ai rfl _) rfl rfl (bR (N:=[(.tmp 14,.rep am a0),(.tmp 16,.rep Tl [a1]),(.const (.slice none 0 0),.eq (.slice none 0 0)),(.const (.slice none 0 0),.eq (.slice none 0 0))]) (bo [.tmp 14,.tmp 16,.const (.slice none 0 0),.const (.slice none 0 0)] rfl rfl Gf rfl s) λ_ _ _ hn=>⟨hn.1,hn.2.1,(aM (t:=Tl) (x:=([]:(List Int))) .nil rfl rfl hn.2.2.1),(aM (t:=Tl) (x:=([]:(List Int))) .nil rfl rfl hn.2.2.2.1),trivial⟩) ⟨rfl,rfl,rfl,rfl,trivial⟩ λz5=>?_;refine mq ?_;refine xr ?_;refine xr ?_;refine xr ?_;refine aq ?_;refine aq ?_;refine aq (nt (aj (sr ?_)));refine mq ?_;refine jb (d5 rfl) ?_;refine nt (cn h (λh=>?_) (λh=>?_))
  .refine sr (cz rfl (eC [] rfl Ic Ci BI (kG trivial) rfl) trivial ?_);refine mq ?_;refine fr 3 ?_;refine aO rfl rfl (aN rfl wF trivial rfl rfl) ⟨rfl,rfl,trivial⟩ ?_;refine aq (nt (rx ?_));refine bK (iF (a:=.agg (.pair (I 0) (I 0))) (a':=.rep bV (0,0)) (kp (.agg (.pair .int .int)))) ?_;cases h;exact aP () [.rep bV (0,0),_] 0 ⟨⟨_,_,_,_,_,rfl,(.head _),wF,(oL),rfl⟩,rfl,trivial⟩ rfl
  .refine sk (sr (cq (nt ?_)));refine aE (Z:=Value) (α:=(List Int)) (λz7 x6=>[(4,Pt b2),(9,.eq z7)]) (λz7 x6=>[.obj b2 67 (.agg (.pair (I 0) (I 0))),.sl z7 3 Ti x6,.inv z5.2 (cy k q4)]) h (λK h=>?_) (λz7 x6 h=>?_)
   .refine sr (mq ?_);refine ol Ce ?_;refine fH rfl ?_;refine nt (ah (hP (SE.nil 3 Ti) ?_));refine aC (λz9 y8=>[(1,I a1),(4,Pt b2),(6,.eq (.pointer (some ⟨z5.1,0,none⟩))),(9,.eq z9),(25,.rep (.slice (.int .u8)) r3.2.1),(26,I (r3.2.1.length:Int)),(27,I y8.2)]) (λz9 y8=>[.obj b2 67 (.agg (.pair (I 0) (I 0))),.obj z5.1 135 (ba q4 z5.2),.sl z9 3 Ti y8.1,.inv z5.2 (cy k q4)]) (lC k a1 r3 q4) k (.slice none 0 0) (([]:(List Int)),0) (λ_=>rfl) h (SE.fin [4,1,0,2] ⟨rfl,rfl,rfl,rfl,rfl,rfl,rfl,trivial⟩ rfl) (λn z9 y8 h=>?_);unfold lC at h;refine sr (jb (bj rfl) ?_);refine nt (aj (ci h (λh=>?_) (λh=>?_)))
    .refine sk (aE (Z:=Value) (α:=(List Int)) (λc e=>[(1,I a1),(4,Pt b2),(6,.eq (.pointer (some ⟨z5.1,0,none⟩))),(9,.eq c),(25,.rep (.slice (.int .u8)) r3.2.1),(26,I (r3.2.1.length:Int)),(27,I y8.2)]) (λc e=>[.obj b2 67 (.agg (.pair (I 0) (I 0))),.obj z5.1 135 (ba q4 z5.2),.sl c 3 Ti e,.inv z5.2 (cy k q4)]) h (λK h=>?_) (λc e h=>?_))
     .refine ah (sr ?_);obtain⟨U,D,h⟩:=aa h;refine jb (aD (t:=(.int .u8)) rfl Ce qG D) ?_;refine ja (ao (t:=(.int .u8)) rfl qG rfl) ?_;refine aq (nt (sr ?_));iterate 3 refine mq ?_
      obtain⟨u,O,h⟩:=aa h;refine fr 3 ?_;refine fr 2 ?_;refine aR (Δ:=[_,_]) (F:=_) (λ_ _ _=>ai rfl _) rfl rfl (bo [.tmp 31,.tmp 32,.tmp 33] rfl rfl SG rfl (ma k q4 z5.1 z5.2 U a1 u O)) ⟨rfl,rfl,rfl,trivial⟩ λ_=>?_;refine aq (nt (sr ?_));refine mq ?_;refine jb (iI rfl) ?_;refine nt (ci h (λh=>?_) (λh=>?_))
      .refine ae ?_;iterate 2 refine mq ?_
       refine ja (aV (t:=Ti) [(.tmp 38,_)] [u] rfl rfl cV (.cons rfl .int .nil) rfl rfl) ?_;obtain⟨gw,E,h⟩:=aa h;refine fr 3 ?_;refine cR rfl rfl rfl (bp rfl rfl cV (ap E)) ⟨rfl,rfl,trivial⟩ λX=>?_;refine aq (aF (bn ?_));exact jz (X,y8.1++[u]) h [3,1,0,2]
      .refine aZ (bn ?_);exact jz (z9,y8.1) h [2,0,3,1]
     .refine ae ?_;obtain⟨Q,y,h⟩:=aa h;refine jb (be rfl y) ?_;refine mq (nl ?_);exact jz (c,(e,Q)) h [0,1,2,3]
    .refine xa ?_;exact jz (z9,y8.1) h [0,2,3]
   .refine aj (sr (mq ?_));refine fr 1 ?_;refine ka (nB rfl rfl gA) ?_;refine jb (jE rfl) ?_;refine nt (ci h (λh=>?_) (λh=>?_))
    .refine sr (cz rfl (eC [] rfl Ic Ci BI (kG trivial) rfl) trivial ?_);refine fr 1 ?_;refine aO rfl rfl (aN rfl wF trivial rfl rfl) ⟨rfl,rfl,trivial⟩ ?_;refine cq (nt (rx ?_));refine bK (iF (a:=.agg (.pair (I 0) (I 0))) (a':=.rep bV (0,0)) (kp (.agg (.pair .int .int)))) ?_;cases h;exact aP () [.rep bV (0,0),_] 0 ⟨⟨_,_,_,_,_,rfl,(.head _),wF,(oL),rfl⟩,rfl,trivial⟩ rfl
    .refine sk (sr (mq ?_));obtain⟨l,M,h⟩:=aa h;refine ka (kl (N:=[(.tmp 46,.eq z7)]) (ax [.tmp 46] rfl rfl SK rfl (oU k x6 l M)) (λ_ _ _ hv hn=>⟨(lend hn.1 hv),trivial⟩) (λ_=>⟨rfl,nI⟩)) ?_;refine mq ?_;obtain⟨j,J,h⟩:=aa h;refine ka (kl (N:=[(.tmp 48,.eq z7)]) (ax [.tmp 48] rfl rfl UX rfl (uY k x6 j J)) (λ_ _ _ hv hn=>⟨(lend hn.1 hv),trivial⟩) (λ_=>⟨rfl,nI⟩)) ?_;refine jb (eC [(0,.tmp 47,_),(1,.tmp 49,_)] rfl Ic Ci BI (kG ⟨rfl,rfl,trivial⟩) rfl) ?_;refine fr 1 ?_;refine aO rfl rfl (aN rfl wF trivial rfl rfl) ⟨rfl,rfl,trivial⟩ ?_;refine cq (nt (aA ?_));refine bK (iF (a:=.agg (.pair (I l) (I j))) (a':=.rep bV (l,j)) (kp (.agg (.pair .int .int)))) ?_;cases h;exact aP () [.rep bV (l,j),_] 0 ⟨⟨_,_,_,_,_,rfl,(.head _),wF,(oL),rfl⟩,rfl,trivial⟩ rfl
def kx(k:Nat)(a1:Int)(a2:Int)(y4:(List (List (List Int)))×Int)(h:(List Int)):Nat->((List Int)×Int)->Option (List Int)
 |0,_=>none
 |n+1,c=>
  if c.2 < (h.length:Int) then((((aG h c.2).bind λe=>
  ((if y4.2 < a1 then(some true) else((fj k a2 e).bind λs=>
  some (!s))):Option (Bool)).bind λl=>
  if l=true then((bS (bi (length c.1+length [e]))).bind λ_=>
  some (c.1++[e])) else(some c.1)):Option ((List Int))).bind λr=>
  (ck (c.2+1)).bind λj=>
  kx k a1 a2 y4 h n (r,j)) else(some c.1)
def ky(k:Nat)(a1:Int)(a2:Int)(y4:(List (List (List Int)))×Int)(x8:(List (List Int))):Nat->((List (List Int))×Int)->Option (List (List Int))
 |0,_=>none
 |n+1,c=>
  if c.2 < (x8.length:Int) then((((aG x8 c.2).bind λj=>
  ((kx k a1 a2 y4 j k (([]:(List Int)),0)):Option ((List Int))).bind λe=>
  (bS (bi (length c.1+length [e]))).bind λ_=>
  some (c.1++[e])):Option ((List (List Int)))).bind λl=>
  (ck (c.2+1)).bind λh=>
  ky k a1 a2 y4 x8 n (l,h)) else(some c.1)
def kz(k:Nat)(a0:ab)(a1:Int)(a2:Int):Nat->((List (List (List Int)))×Int)->Option (List (List (List Int)))
 |0,_=>none
 |n+1,y4=>
  if y4.2 < (a0.2.2.2.2.1.length:Int) then((((aG a0.2.2.2.2.1 y4.2).bind λx8=>
  ((ky k a1 a2 y4 x8 k (([]:(List (List Int))),0)):Option ((List (List Int)))).bind λx9=>
  (bS (bi (length y4.1+length [x9]))).bind λ_=>
  some (y4.1++[x9])):Option ((List (List (List Int))))).bind λx6=>
  (ck (y4.2+1)).bind λc=>
  kz k a0 a1 a2 n (x6,c)) else(some y4.1)
def nY(k:Nat)(a0:ab)(a1:Int)(a2:Int):Option (Option ab):=
 ((kz k a0 a1 a2 k (([]:(List (List (List Int)))),0)):Option ((List (List (List Int))))).bind λx2=>
 (jK k (a0.1,a0.2.1,a0.2.2.1,a0.2.2.2.1,x2,a0.2.2.2.2.2)).bind λc=>
 gY c (some none) (λe=>some (some e))
theorem wP(k:Nat)(a0:ab)(a1:Int)(a2:Int)(r:(Option ab))(h:nY k a0 a1 a2=some r):
 cT Tryz.prog 85 [.rep am a0,I a1,.eq (.int .u8 a2)] [] (λz:Nat×Nat=>(bC [Lp r z.1],Ln r λq=>rG q z.1 z.2 k)):=by
 unfold nY at h
 replace h:=aX h
 refine cT.of 69 Tryz.func85 rfl Tryz.ntmps85 rfl λS w0=>?_
 refine sr ?_
 refine bx λb1=>?_
 refine cq ?_
 refine nt ?_
 refine sr ?_
 refine fl cj ?_
 refine lo fB ?_
 refine mq ?_
 refine ja (s5 [.tmp 19] [] [(.int .u8 a2)] [] rfl rfl rfl) ?_
 refine aq ?_
 refine aq ?_
 refine nt ?_
 refine sr ?_
 refine fl cj ?_
 refine aO rfl rfl (aN rfl fB rfl rfl rfl) ⟨rfl,rfl,trivial⟩ ?_
 refine nt ?_
 refine aE (Z:=Value) (α:=(List (List (List Int)))) (λz3 x2=>[(3,Pt b1)]) (λz3 x2=>[.obj b1 25 (.agg (.pair (I a0.1) (.pair (I a0.2.1) (.pair (I a0.2.2.1) (.pair (I a0.2.2.2.1) (.pair (.eq z3) (Rs aJ a0.2.2.2.2.2))))))),.sl z3 36 (.slice Tl) x2]) h (λK h=>?_) (λz3 x2 h=>?_)
 .
  refine sr (mq ?_);refine ol pJ ?_;refine fH rfl ?_;refine nt (ah (hP (SE.nil 36 (.slice Tl)) ?_));refine dI 1 rfl ?_;refine hP (iF (a:=.agg (.pair (.rep Ti a0.1) (.pair (.rep Ti a0.2.1) (.pair (.rep Ti a0.2.2.1) (.pair (.rep Ti a0.2.2.2.1) (.pair (.eq (.slice none 0 0)) (Rs aJ a0.2.2.2.2.2))))))) (a':=.agg (.pair (I a0.1) (.pair (I a0.2.1) (.pair (I a0.2.2.1) (.pair (I a0.2.2.2.1) (.pair (.eq (.slice none 0 0)) (Rs aJ a0.2.2.2.2.2))))))) (AE.agg (AE.pair AE.int (AE.pair AE.int (AE.pair AE.int (AE.pair AE.int AE.rfl)))))) ?_;refine aC (λz5 y4=>[(1,I a1),(3,Pt b1),(8,.eq (.func (.func 97) #[(.int .u8 a2)] #[])),(22,.rep (.slice (.slice Tl)) a0.2.2.2.2.1),(23,I (a0.2.2.2.2.1.length:Int)),(24,I y4.2)]) (λz5 y4=>[.obj b1 25 (.agg (.pair (I a0.1) (.pair (I a0.2.1) (.pair (I a0.2.2.1) (.pair (I a0.2.2.2.1) (.pair (.eq z5) (Rs aJ a0.2.2.2.2.2))))))),.sl z5 36 (.slice Tl) y4.1]) (kz k a0 a1 a2) k (.slice none 0 0) (([]:(List (List (List Int)))),0) (λ_=>rfl) h (SE.fin [0,1] ⟨rfl,rfl,rfl,rfl,rfl,rfl,trivial⟩ rfl) (λn z5 y4 h=>?_);unfold kz at h;refine sr (jb (bj rfl) ?_);refine nt (aj (ci h (λh=>?_) (λh=>?_)))
  .refine sk (aE (Z:=Value) (α:=(List (List (List Int)))) (λz7 x6=>[(1,I a1),(3,Pt b1),(8,.eq (.func (.func 97) #[(.int .u8 a2)] #[])),(22,.rep (.slice (.slice Tl)) a0.2.2.2.2.1),(23,I (a0.2.2.2.2.1.length:Int)),(24,I y4.2)]) (λz7 x6=>[.obj b1 25 (.agg (.pair (I a0.1) (.pair (I a0.2.1) (.pair (I a0.2.2.1) (.pair (I a0.2.2.2.1) (.pair (.eq z7) (Rs aJ a0.2.2.2.2.2))))))),.sl z7 36 (.slice Tl) x6]) h (λK h=>?_) (λz7 x6 h=>?_))
   .refine ah (sr (mq ?_));obtain⟨x8,Wv,h⟩:=aa h;refine jb (aD (t:=(.slice Tl)) rfl pJ kE Wv) ?_;refine ja (ao (t:=(.slice Tl)) rfl kE rfl) ?_;refine aq ?_;refine aq (nt (sr ?_));refine cq (nt ?_);refine aE (Z:=Value) (α:=(List (List Int))) (λQ x9=>[(1,I a1),(3,Pt b1),(8,.eq (.func (.func 97) #[(.int .u8 a2)] #[])),(11,.eq Q),(22,.rep (.slice (.slice Tl)) a0.2.2.2.2.1),(23,I (a0.2.2.2.2.1.length:Int)),(24,I y4.2)]) (λQ x9=>[.obj b1 25 (.agg (.pair (I a0.1) (.pair (I a0.2.1) (.pair (I a0.2.2.1) (.pair (I a0.2.2.2.1) (.pair (.eq z5) (Rs aJ a0.2.2.2.2.2))))))),.sl z5 36 (.slice Tl) y4.1,.sl Q 28 Tl x9]) h (λK h=>?_) (λQ x9 h=>?_)
    .refine sr (mq ?_);refine ol nK ?_;refine fH rfl ?_;refine nt (ah (hP (SE.nil 28 Tl) ?_));refine aC (λe c=>[(1,I a1),(3,Pt b1),(8,.eq (.func (.func 97) #[(.int .u8 a2)] #[])),(9,I y4.2),(11,.eq e),(22,.rep (.slice (.slice Tl)) a0.2.2.2.2.1),(23,I (a0.2.2.2.2.1.length:Int)),(24,I y4.2),(29,.rep (.slice Tl) x8),(30,I (x8.length:Int)),(31,I c.2)]) (λe c=>[.obj b1 25 (.agg (.pair (I a0.1) (.pair (I a0.2.1) (.pair (I a0.2.2.1) (.pair (I a0.2.2.2.1) (.pair (.eq z5) (Rs aJ a0.2.2.2.2.2))))))),.sl z5 36 (.slice Tl) y4.1,.sl e 28 Tl c.1]) (ky k a1 a2 y4 x8) k (.slice none 0 0) (([]:(List (List Int))),0) (λ_=>rfl) h (SE.fin [1,2,0] ⟨rfl,rfl,rfl,rfl,rfl,rfl,rfl,rfl,rfl,rfl,rfl,trivial⟩ rfl) (λn e c h=>?_);unfold ky at h;refine sr (jb (bj rfl) ?_);refine nt (aj (ci h (λh=>?_) (λh=>?_)))
     .refine sk (aE (Z:=Value) (α:=(List (List Int))) (λE X=>[(1,I a1),(3,Pt b1),(8,.eq (.func (.func 97) #[(.int .u8 a2)] #[])),(9,I y4.2),(11,.eq E),(22,.rep (.slice (.slice Tl)) a0.2.2.2.2.1),(23,I (a0.2.2.2.2.1.length:Int)),(24,I y4.2),(29,.rep (.slice Tl) x8),(30,I (x8.length:Int)),(31,I c.2)]) (λE X=>[.obj b1 25 (.agg (.pair (I a0.1) (.pair (I a0.2.1) (.pair (I a0.2.2.1) (.pair (I a0.2.2.2.1) (.pair (.eq z5) (Rs aJ a0.2.2.2.2.2))))))),.sl z5 36 (.slice Tl) y4.1,.sl E 28 Tl X]) h (λK h=>?_) (λE X h=>?_))
      .refine ah (sr ?_);obtain⟨u,We,h⟩:=aa h;refine jb (aD (t:=Tl) rfl nK eT We) ?_;refine ja (ao (t:=Tl) rfl eT rfl) ?_;refine aq (nt (sr ?_));refine cq (nt ?_);refine aE (Z:=Value) (α:=(List Int)) (λO M=>[(1,I a1),(3,Pt b1),(8,.eq (.func (.func 97) #[(.int .u8 a2)] #[])),(9,I y4.2),(11,.eq e),(14,.eq O),(22,.rep (.slice (.slice Tl)) a0.2.2.2.2.1),(23,I (a0.2.2.2.2.1.length:Int)),(24,I y4.2),(29,.rep (.slice Tl) x8),(30,I (x8.length:Int)),(31,I c.2)]) (λO M=>[.obj b1 25 (.agg (.pair (I a0.1) (.pair (I a0.2.1) (.pair (I a0.2.2.1) (.pair (I a0.2.2.2.1) (.pair (.eq z5) (Rs aJ a0.2.2.2.2.2))))))),.sl z5 36 (.slice Tl) y4.1,.sl e 28 Tl c.1,.sl O 3 Ti M]) h (λK h=>?_) (λO M h=>?_)
       .refine sr (mq ?_);refine ol gA ?_;refine fH rfl ?_;refine nt (ah (hP (SE.nil 3 Ti) ?_));refine aC (λl j=>[(1,I a1),(3,Pt b1),(8,.eq (.func (.func 97) #[(.int .u8 a2)] #[])),(9,I y4.2),(11,.eq e),(14,.eq l),(22,.rep (.slice (.slice Tl)) a0.2.2.2.2.1),(23,I (a0.2.2.2.2.1.length:Int)),(24,I y4.2),(29,.rep (.slice Tl) x8),(30,I (x8.length:Int)),(31,I c.2),(35,.rep Tl u),(36,I (u.length:Int)),(37,I j.2)]) (λl j=>[.obj b1 25 (.agg (.pair (I a0.1) (.pair (I a0.2.1) (.pair (I a0.2.2.1) (.pair (I a0.2.2.2.1) (.pair (.eq z5) (Rs aJ a0.2.2.2.2.2))))))),.sl z5 36 (.slice Tl) y4.1,.sl e 28 Tl c.1,.sl l 3 Ti j.1]) (kx k a1 a2 y4 u) k (.slice none 0 0) (([]:(List Int)),0) (λ_=>rfl) h (SE.fin [1,2,3,0] ⟨rfl,rfl,rfl,rfl,rfl,rfl,rfl,rfl,rfl,rfl,rfl,rfl,rfl,rfl,rfl,trivial⟩ rfl) (λn l j h=>?_);unfold kx at h;refine sr (jb (bj rfl) ?_);refine nt (aj (ci h (λh=>?_) (λh=>?_)))
        .refine sk (aE (Z:=Value) (α:=(List Int)) (λD U=>[(1,I a1),(3,Pt b1),(8,.eq (.func (.func 97) #[(.int .u8 a2)] #[])),(9,I y4.2),(11,.eq e),(14,.eq D),(22,.rep (.slice (.slice Tl)) a0.2.2.2.2.1),(23,I (a0.2.2.2.2.1.length:Int)),(24,I y4.2),(29,.rep (.slice Tl) x8),(30,I (x8.length:Int)),(31,I c.2),(35,.rep Tl u),(36,I (u.length:Int)),(37,I j.2)]) (λD U=>[.obj b1 25 (.agg (.pair (I a0.1) (.pair (I a0.2.1) (.pair (I a0.2.2.1) (.pair (I a0.2.2.2.1) (.pair (.eq z5) (Rs aJ a0.2.2.2.2.2))))))),.sl z5 36 (.slice Tl) y4.1,.sl e 28 Tl c.1,.sl D 3 Ti U]) h (λK h=>?_) (λD U h=>?_))
         .refine ah (sr ?_);obtain⟨J,Wc,h⟩:=aa h;refine jb (aD (t:=Ti) rfl gA bQ Wc) ?_;refine ja (ao (t:=Ti) rfl bQ rfl) ?_;refine aq (nt ?_);refine aE (Z:=Unit) (α:=Bool) (λmc gw=>[(1,I a1),(3,Pt b1),(8,.eq (.func (.func 97) #[(.int .u8 a2)] #[])),(9,I y4.2),(11,.eq e),(14,.eq l),(16,I J),(22,.rep (.slice (.slice Tl)) a0.2.2.2.2.1),(23,I (a0.2.2.2.2.1.length:Int)),(24,I y4.2),(29,.rep (.slice Tl) x8),(30,I (x8.length:Int)),(31,I c.2),(35,.rep Tl u),(36,I (u.length:Int)),(37,I j.2),(49,.eq (.bool gw))]) (λmc gw=>[.obj b1 25 (.agg (.pair (I a0.1) (.pair (I a0.2.1) (.pair (I a0.2.2.1) (.pair (I a0.2.2.2.1) (.pair (.eq z5) (Rs aJ a0.2.2.2.2.2))))))),.sl z5 36 (.slice Tl) y4.1,.sl e 28 Tl c.1,.sl l 3 Ti j.1]) h (λK h=>?_) (λmc gw h=>?_)
          .refine ae ?_;iterate 2 refine mq ?_
           refine jb (bj rfl) ?_;refine mq ?_;refine cf (s:=44) rfl (λhb=>?_) (λhb=>?_)
           .replace h:=ee (vM hb) h;iterate 4 refine gn ?_
            refine pt (nl ?_);exact jz ((),true) h [0,1,2,3]
           .replace h:=cK (vO hb) h;refine gm ?_;refine gm ?_;obtain⟨qt,Wm,h⟩:=aa h;refine gb (uG (fs:=[(.int .u8 a2)]) (cs:=[]) (ags:=[I J]) [.tmp 46] rfl rfl Jh rfl (ip k a2 J qt Wm)) ?_;refine ga (fh rfl) ?_;refine pf (nl ?_);exact jz ((), !qt) h [0,1,2,3]
          .refine cv h (λh=>?_) (λh=>?_)
           .refine ae ?_;iterate 2 refine mq ?_
            refine ja (aV (t:=Ti) [(.tmp 51,_)] [J] rfl rfl cV (.cons rfl .int .nil) rfl rfl) ?_;obtain⟨Wy,Wi,h⟩:=aa h;refine fr 3 ?_;refine cR rfl rfl rfl (bp rfl rfl cV (ap Wi)) ⟨rfl,rfl,trivial⟩ λWu=>?_;refine aq (aF (bn ?_));exact jz (Wu,j.1++[J]) h [1,2,3,0]
           .refine aZ (bn ?_);exact jz (l,j.1) h [0,1,2,3]
         .refine ae ?_;obtain⟨Wq,Wb,h⟩:=aa h;refine jb (be rfl Wb) ?_;refine mq (nl ?_);exact jz (D,(U,Wq)) h [0,1,2,3]
        .refine xa ?_;exact jz (l,j.1) h [0,1,2,3]
       .refine ae ?_;iterate 2 refine mq ?_
        refine fr 3 ?_;refine eD (gy [14,56] ⟨rfl,rfl,trivial⟩) ?_;refine ja (aV (t:=Tl) [(.tmp 56,_)] [M] rfl rfl lT (.cons rfl .rep .nil) rfl rfl) ?_;obtain⟨Wx,Wh,h⟩:=aa h;refine fr 2 ?_;refine cR rfl rfl rfl (bp rfl rfl lT (ap Wh)) ⟨rfl,rfl,trivial⟩ λWt=>?_;refine aq (aF (bn ?_));exact jz (Wt,c.1++[M]) h [1,2,0]
      .refine ae ?_;obtain⟨Wp,Wa,h⟩:=aa h;refine jb (be rfl Wa) ?_;refine mq (nl ?_);exact jz (E,(X,Wp)) h [0,1,2]
     .refine xa ?_;exact jz (e,c.1) h [0,1,2]
    .refine ae (fl cj ?_);refine lo fB ?_;refine mq ?_;refine fr 2 ?_;refine eD (gy [11,62] ⟨rfl,rfl,trivial⟩) ?_;refine ja (aV (t:=(.slice Tl)) [(.tmp 62,_)] [x9] rfl rfl yt (.cons rfl .rep .nil) rfl rfl) ?_;obtain⟨u32,Wg,h⟩:=aa h;refine fr 1 ?_;refine cR rfl rfl rfl (bp rfl rfl yt (ap Wg)) ⟨rfl,rfl,trivial⟩ λWs=>?_;refine fl cj ?_;refine ot λo34=>?_;refine fr 1 ?_;refine aO rfl rfl (aN rfl fB o34 rfl rfl) ⟨rfl,rfl,trivial⟩ ?_;refine aF (bn ?_);exact jz (Ws,y4.1++[x9]) h [0,1]
   .refine ae ?_;obtain⟨Wn,zz,h⟩:=aa h;refine jb (be rfl zz) ?_;refine mq (nl ?_);exact jz (z7,(x6,Wn)) h [0,1]
  .refine xa ?_;exact jz (z5,y4.1) h [0,1]
 .
  refine sr (fr 1 ?_);refine eD (jj (off:=4) [] trivial rfl rfl) ?_;refine lo dF ?_;obtain⟨mw,Wj,h⟩:=aa h;have y:=oz k (a0.1,a0.2.1,a0.2.2.1,a0.2.2.2.1,x2,a0.2.2.2.2.2) mw Wj;rcases hr:mw with _ |Wz
  .rw [hr] at h y;replace h:=wW h;refine aR (Δ:=[]) (F:=_) (λ_ _ _=>ai rfl _) rfl rfl (bR (N:=[(.tmp 67,.agg (.pair (I a0.1) (.pair (I a0.2.1) (.pair (I a0.2.2.1) (.pair (I a0.2.2.2.1) (.pair (.rep (.slice (.slice Tl)) x2) (Rs aJ a0.2.2.2.2.2)))))))]) (ax [.tmp 67] rfl rfl MQ rfl y) λ_ _ _ hn=>⟨(aM (t:=am) (x:=(a0.1,a0.2.1,a0.2.2.1,a0.2.2.2.1,x2,a0.2.2.2.2.2)) (.agg (.pair .int (.pair .int (.pair .int (.pair .int (.pair .rep .rep)))))) trivial rfl hn.1),trivial⟩) ⟨rfl,trivial⟩ λ_=>?_;refine aq (nt (aA ?_));cases h;exact aP (0,0) [.eq (.pointer none)] 0 ⟨rfl,trivial⟩ rfl
  .rw [hr] at h y;replace h:=wV h;refine aR (Δ:=[]) (F:=_) (λ_ _ _=>ai rfl _) rfl rfl (bR (N:=[(.tmp 67,.agg (.pair (I a0.1) (.pair (I a0.2.1) (.pair (I a0.2.2.1) (.pair (I a0.2.2.2.1) (.pair (.rep (.slice (.slice Tl)) x2) (Rs aJ a0.2.2.2.2.2)))))))]) (ax [.tmp 67] rfl rfl MQ rfl y) λ_ _ _ hn=>⟨(aM (t:=am) (x:=(a0.1,a0.2.1,a0.2.2.1,a0.2.2.2.1,x2,a0.2.2.2.2.2)) (.agg (.pair .int (.pair .int (.pair .int (.pair .int (.pair .rep .rep)))))) trivial rfl hn.1),trivial⟩) ⟨rfl,trivial⟩ λY=>?_;refine aq (nt (aA ?_));cases h;exact aP (Y.1,Y.2) [.eq (.pointer (some ⟨Y.1,0,none⟩))] 2 ⟨rfl,trivial⟩ rfl
def fp(k:Nat)(a0:ab)(r1:(List (List Int)))(y5:Int):Nat->Int->Option (Except Bool Unit)
 |0,_=>none
 |n+1,c=>
  if c < a0.1 then((((aG r1 y5).bind λs=>
  (aG s c).bind λr=>
  if r < 0 then((ck (y5+1)).bind λl=>
  (aG r1 l).bind λj=>
  (aG j c).bind λh=>
  some (decide (h=0))) else(some false)):Option (Bool)).bind λu=>
  if u=true then(some (.error true)) else((ck (c+1)).bind λe=>
  fp k a0 r1 y5 n e)) else(some (.ok ()))
def fq(k:Nat)(a0:ab)(r1:(List (List Int))):Nat->Int->Option (Except Bool Unit)
 |0,_=>none
 |n+1,y5=>
  if y5 < (a0.2.2.2.2.1.length:Int) then(bE (α:=Unit) ((ck (y5+1)).bind λx9=>
  (aG r1 x9).bind λh=>
  (aG r1 y5).bind λc=>
  (bS (yx h/\yx c)).bind λ_=>
  if h=c then(some (.ok ())) else(fp k a0 r1 y5 k 0)) (λe=>some (.error e)) λ_=>
  (ck (y5+1)).bind λj=>
  fq k a0 r1 n j) else(some (.ok ()))
def jL(k:Nat)(a0:ab)(a1:Int)(a2:Int):Option Bool:=
 (lE k a0 a1).bind λr1=>
 bE (α:=Unit) (fq k a0 r1 k a2) (some) λ_=>
 some false
theorem pq(k:Nat)(a0:ab)(c z_a0:Nat)(a1:Int)(a2:Int)(r:Bool)(h:jL k a0 a1 a2=some r):
 co (eu Tryz.prog) 87 [Pt c,.eq (.int .u8 a1),I a2] [.obj c 135 (ba a0 z_a0),.inv z_a0 (cy k a0)] (λ_:Unit=>(bC [.eq (.bool r)],[.obj c 135 (ba a0 z_a0),.inv z_a0 (cy k a0)])):=by
 unfold jL at h
 replace h:=aX h
 refine co.of 56 Tryz.func87 rfl Tryz.ntmps87 rfl λS w0=>?_
 refine sr ?_
 refine cq ?_
 refine nt ?_
 refine sr ?_
 iterate 2 refine mq ?_
 obtain⟨r1,Wa,h⟩:=aa h
 have Wb:=qf k a0 c z_a0 a1 r1 Wa
 refine fr 1 ?_
 refine fr 1 ?_
 refine aR (Δ:=[_,_]) (F:=_) (λ_ _ _=>ai rfl _) rfl rfl (bo [.tmp 10,.tmp 11] rfl rfl Gh rfl Wb) ⟨rfl,rfl,trivial⟩ λ_=>?_
 refine aW rfl rfl rfl (bv rfl G4 Jx) trivial λb2=>?_
 refine aO rfl rfl (aN rfl HF rfl rfl rfl) ⟨rfl,rfl,trivial⟩ ?_
 refine eD (kj (t:=(.arr 7 Tr)) (x:=r1) [7] .rep ⟨rfl,trivial⟩) ?_
 refine nt ?_
 refine cS (Z:=Unit) (α:=Unit) (λz4 x3=>[]) (λz4 x3=>[.obj c 135 (ba a0 z_a0),.inv z_a0 (cy k a0)]) (λe=>e=r) h (λe h=>Option.some.inj h) (λK hR h=>?_) (λz4 x3 h=>?_)
 .
  refine sr (mq ?_);refine aq (nt (ah ?_));refine aC (λz6 y5=>[(0,Pt c),(7,.at (.arr 7 Tr) r1),(8,I y5)]) (λz6 y5=>[.obj c 135 (ba a0 z_a0),.inv z_a0 (cy k a0)]) (fq k a0 r1) k () a2 (λ_=>rfl) h (SE.fin [0,1] ⟨rfl,rfl,rfl,trivial⟩ rfl) (λn z6 y5 h=>?_);unfold fq at h;refine aj (sr ?_);iterate 2 refine mq ?_
  refine ja (cU rfl) ?_;refine fl iE ?_;refine fl cj ?_;refine lo fB ?_;refine ol pJ ?_;refine jb (bj rfl) ?_;refine nt (ci h (λh=>?_) (λh=>?_))
  .refine sk (cS (Z:=Unit) (α:=Unit) (λz8 x7=>[(0,Pt c),(7,.at (.arr 7 Tr) r1),(8,I y5)]) (λz8 x7=>[.obj c 135 (ba a0 z_a0),.inv z_a0 (cy k a0)]) (λe=>e=r) h (λe h=>hR e h) (λK hR h=>?_) (λz8 x7 h=>?_))
   .refine ah (aj (aj (bz ?_)));refine dm ?_;obtain⟨x9,zz,h⟩:=aa h;refine db (be rfl zz) ?_;obtain⟨Wj,gw,h⟩:=aa h;refine db (cG (t:=Tr) rfl Kw jT gw) ?_;refine da (ao (t:=Tr) rfl jT rfl) ?_;refine dm ?_;obtain⟨Wi,Y,h⟩:=aa h;refine db (cG (t:=Tr) rfl Kw jT Y) ?_;refine da (ao (t:=Tr) rfl jT rfl) ?_;refine df cQ ?_;obtain⟨Wm,l,h⟩:=aa h;refine jb (Im rfl (ap l).1 (ap l).2) ?_;refine nt (ci h (λh=>?_) (λh=>?_))
    .refine fA (bJ (cZ (av ?_)));exact jz ((),()) h [0,1]
    .refine sk (sr (mq ?_));refine ja (cU rfl) ?_;refine fl iE ?_;refine fl eU ?_;refine lo bQ ?_;refine fH rfl ?_;refine nt (ah (aC (λD j=>[(0,Pt c),(7,.at (.arr 7 Tr) r1),(8,I y5),(36,I a0.1),(37,I j)]) (λD j=>[.obj c 135 (ba a0 z_a0),.inv z_a0 (cy k a0)]) (fp k a0 r1 y5) k () 0 (λ_=>rfl) h (SE.fin [0,1] ⟨rfl,rfl,rfl,rfl,rfl,trivial⟩ rfl) (λn D j h=>?_)));unfold fp at h;refine sr (jb (bj rfl) ?_);refine nt (aj (ci h (λh=>?_) (λh=>?_)))
     .refine sk (aj (ah (sr (mq ?_))));refine aq (nt ?_);refine aE (Z:=Unit) (α:=Bool) (λy u=>[(0,Pt c),(7,.at (.arr 7 Tr) r1),(8,I y5),(36,I a0.1),(37,I j),(54,.eq (.bool u))]) (λy u=>[.obj c 135 (ba a0 z_a0),.inv z_a0 (cy k a0)]) h (λK h=>?_) (λy u h=>?_)
      .refine ae ?_;iterate 2 refine mq ?_
       obtain⟨Wh,X,h⟩:=aa h;refine jb (cG (t:=Tr) rfl Kw jT X) ?_;obtain⟨Wg,U,h⟩:=aa h;refine jb (cG (t:=Ti) rfl D1 bQ U) ?_;refine ja (ao (t:=Ti) rfl bQ rfl) ?_;refine jb (bj rfl) ?_;refine mq ?_;refine cf (s:=46) rfl (λhb=>?_) (λhb=>?_)
       .replace h:=ee (vM hb) h;refine gm ?_;obtain⟨We,Q,h⟩:=aa h;refine gb (be rfl Q) ?_;refine gm ?_;obtain⟨Wc,O,h⟩:=aa h;refine gb (cG (t:=Tr) rfl Kw jT O) ?_;obtain⟨qt,M,h⟩:=aa h;refine gb (cG (t:=Ti) rfl D1 bQ M) ?_;refine ga (ao (t:=Ti) rfl bQ rfl) ?_;refine gb (jE rfl) ?_;refine pt (nl ?_);exact jz ((),decide (qt=0)) h [0,1]
       .replace h:=cK (vO hb) h;iterate 7 refine gn ?_
        refine pf (nl ?_);exact jz ((),false) h [0,1]
      .refine cv h (λh=>?_) (λh=>?_)
       .refine sr (cq (nt (aA (br (bb (br (bb (bg ?_))))))));obtain rfl:=hR _ h;exact aP () [_] 2 ⟨rfl,trivial⟩ rfl
       .refine aZ (aI (tn (ae ?_)));obtain⟨mw,J,h⟩:=aa h;refine jb (be rfl J) ?_;refine mq (nl ?_);exact jz ((),mw) h [0,1]
     .refine fA (bJ (bJ (cZ (bn ?_))));exact jz ((),()) h [0,1]
   .refine ae (mq ?_);obtain⟨mc,E,h⟩:=aa h;refine jb (be rfl E) ?_;refine aq (nl ?_);exact jz ((),mc) h [0,1]
  .refine xa ?_;exact jz ((),()) h [0,1]
 .
  refine sr (cq (nt (aA ?_)));cases h;exact aP () [_] 2 ⟨rfl,trivial⟩ rfl
def oa(k:Nat)(a0:Int)(a1:ab)(a2:Int):Option Bool:=
 (jL k a1 a0 a2).bind λr1=>
 some r1
theorem uu(k:Nat)(a0:Int)(a1:ab)(c z_a1 j:Nat)(a2:Int)(e:Nat)(r:Bool)(h:oa k a0 a1 a2=some r):
 co (eu Tryz.prog) 86 [.eq (.int .u8 a0),Pt j,Pt e] [.obj c 135 (ba a1 z_a1),.inv z_a1 (cy k a1),.obj j 77 (Pt c),.obj e 3 (I a2)] (λ_:Unit=>(bC [.eq (.bool r)],[.obj c 135 (ba a1 z_a1),.inv z_a1 (cy k a1),.obj j 77 (Pt c),.obj e 3 (I a2)])):=by
 unfold oa at h
 replace h:=aX h
 refine co.of 9 Tryz.func86 rfl Tryz.ntmps86 rfl λS w0=>?_
 refine sr ?_
 refine cq ?_
 refine nt ?_
 refine sr ?_
 refine fr 2 ?_
 refine lo KX ?_
 refine mq ?_
 refine fr 3 ?_
 refine lo bQ ?_
 obtain⟨r1,l,h⟩:=aa h
 have n:=pq k a1 c z_a1 a0 a2 r1 l
 refine fr 3 ?_
 refine fr 3 ?_
 refine aR (Δ:=[_,_]) (F:=_) (λ_ _ _=>ai rfl _) rfl rfl (bo [.tmp 5,.tmp 6,.tmp 7] rfl rfl UV rfl n) ⟨rfl,rfl,rfl,trivial⟩ λ_=>?_
 refine aq ?_
 refine nt ?_
 refine aA ?_
 refine bK (SE.fin (Γ':=[(4,_)]) [0,1,3,2] ⟨rfl,trivial⟩ rfl) ?_
 cases h
 exact aP () [_] 4 ⟨rfl,trivial⟩ rfl
def eY(k:Nat)(a0:(List Int))(a1_0:ab)(a1_1:Int):Nat->Int->Option (Except Int Unit)
 |0,_=>none
 |n+1,y3=>
  if y3 < (a0.length:Int) then((aG a0 y3).bind λx5=>
  (oa k x5 a1_0 a1_1).bind λr6=>
  if r6=true then(some (.error y3)) else((ck (y3+1)).bind λx7=>
  eY k a0 a1_0 a1_1 n x7)) else(some (.ok ()))
def jB(k:Nat)(a0:(List Int))(a1_0:ab)(a1_1:Int):Option Int:=
 bE (α:=Unit) (eY k a0 a1_0 a1_1 k 0) (some) λ_=>
 some (-1:Int)
theorem oW(k:Nat)(a0:(List Int))(a1_0:ab)(b_a1_0 z_a1_0 c_a1_0:Nat)(a1_1:Int)(c_a1_1:Nat)(r:Int)(h:jB k a0 a1_0 a1_1=some r):
 co (eu Tryz.prog) 108 [.rep (.slice (.int .u8)) a0,.eq (.func (.func 86) #[] #[(Pv c_a1_0),(Pv c_a1_1)])] [.obj b_a1_0 135 (ba a1_0 z_a1_0),.inv z_a1_0 (cy k a1_0),.obj c_a1_0 77 (Pt b_a1_0),.obj c_a1_1 3 (I a1_1)] (λ_:Unit=>(bC [I r],[.obj b_a1_0 135 (ba a1_0 z_a1_0),.inv z_a1_0 (cy k a1_0),.obj c_a1_0 77 (Pt b_a1_0),.obj c_a1_1 3 (I a1_1)])):=by
 unfold jB at h
 replace h:=aX h
 refine co.of 19 Tryz.func108 rfl Tryz.ntmps108 rfl λS w0=>?_
 refine sr ?_
 refine cq ?_
 refine nt ?_
 refine cS (Z:=Unit) (α:=Unit) (λz2 x1=>[]) (λz2 x1=>[.obj b_a1_0 135 (ba a1_0 z_a1_0),.inv z_a1_0 (cy k a1_0),.obj c_a1_0 77 (Pt b_a1_0),.obj c_a1_1 3 (I a1_1)]) (λe=>e=r) h (λe h=>Option.some.inj h) (λK hR h=>?_) (λz2 x1 h=>?_)
 .
  refine sr (mq ?_);refine ol Ce ?_;refine fH rfl ?_;refine nt (ah (aC (λz4 y3=>[(0,.rep (.slice (.int .u8)) a0),(1,.eq (.func (.func 86) #[] #[(Pv c_a1_0),(Pv c_a1_1)])),(7,I (a0.length:Int)),(8,I y3)]) (λz4 y3=>[.obj c_a1_0 77 (Pt b_a1_0),.obj b_a1_0 135 (ba a1_0 z_a1_0),.obj c_a1_1 3 (I a1_1),.inv z_a1_0 (cy k a1_0)]) (eY k a0 a1_0 a1_1) k () 0 (λ_=>rfl) h (SE.fin [2,0,3,1] ⟨rfl,rfl,rfl,rfl,trivial⟩ rfl) (λn z4 y3 h=>?_)));unfold eY at h;refine sr (jb (bj rfl) ?_);refine nt (aj (ci h (λh=>?_) (λh=>?_)))
  .refine sk (aj (ah (sr (mq ?_))));refine aq (nt (sr ?_));iterate 3 refine mq ?_
   obtain⟨x5,j,h⟩:=aa h;refine jb (aD (t:=(.int .u8)) rfl Ce qG j) ?_;refine ja (ao (t:=(.int .u8)) rfl qG rfl) ?_;obtain⟨r6,l,h⟩:=aa h;refine fr 2 ?_;refine fr 1 ?_;refine fr 3 ?_;refine fr 3 ?_;refine aR (Δ:=[_,_,_,_]) (F:=_) (λ_ _ _=>ai rfl _) rfl rfl (rW (fs:=[]) (cs:=[(Pv c_a1_0),(Pv c_a1_1)]) (ags:=[.eq (.int .u8 x5)]) [.tmp 15] rfl rfl UW rfl (uu k x5 a1_0 b_a1_0 z_a1_0 c_a1_0 a1_1 c_a1_1 r6 l)) ⟨rfl,rfl,trivial⟩ λ_=>?_;refine nt (cv h (λh=>?_) (λh=>?_))
   .refine sr (mq ?_);refine aq (nt (aA (br (bb (bg ?_)))));obtain rfl:=hR _ h;exact aP () [_] 4 ⟨rfl,trivial⟩ rfl
   .refine aZ (aI (tn (ae ?_)));obtain⟨x7,c,h⟩:=aa h;refine jb (be rfl c) ?_;refine mq (nl ?_);exact jz ((),x7) h [2,0,3,1]
  .refine xa ?_;exact jz ((),()) h [1,3,0,2]
 .
  refine sr (cq (nt (aA ?_)));cases h;exact aP () [_] 4 ⟨rfl,trivial⟩ rfl
def eZ(k:Nat)(a0:(List Int))(a1_0:ab)(a1_1:Int):Option Bool:=
 (jB k a0 a1_0 a1_1).bind λr1=>
 some (decide (0≤r1))
theorem nq(k:Nat)(a0:(List Int))(a1_0:ab)(b_a1_0 z_a1_0 c_a1_0:Nat)(a1_1:Int)(c_a1_1:Nat)(r:Bool)(h:eZ k a0 a1_0 a1_1=some r):
 co (eu Tryz.prog) 88 [.rep (.slice (.int .u8)) a0,.eq (.func (.func 86) #[] #[(Pv c_a1_0),(Pv c_a1_1)])] [.obj b_a1_0 135 (ba a1_0 z_a1_0),.inv z_a1_0 (cy k a1_0),.obj c_a1_0 77 (Pt b_a1_0),.obj c_a1_1 3 (I a1_1)] (λ_:Unit=>(bC [.eq (.bool r)],[.obj b_a1_0 135 (ba a1_0 z_a1_0),.inv z_a1_0 (cy k a1_0),.obj c_a1_0 77 (Pt b_a1_0),.obj c_a1_1 3 (I a1_1)])):=by
 unfold eZ at h
 replace h:=aX h
 refine co.of 9 Tryz.func88 rfl Tryz.ntmps88 rfl λS w0=>?_
 refine sr ?_
 refine cq ?_
 refine nt ?_
 refine sr ?_
 iterate 2 refine mq ?_
 obtain⟨r1,c,h⟩:=aa h
 have e:=oW k a0 a1_0 b_a1_0 z_a1_0 c_a1_0 a1_1 c_a1_1 r1 c
 refine fr 3 ?_
 refine fr 3 ?_
 refine fr 3 ?_
 refine fr 3 ?_
 refine aR (Δ:=[_,_,_,_]) (F:=_) (λ_ _ _=>ai rfl _) rfl rfl (bo [.tmp 5,.tmp 6] rfl rfl Td rfl e) ⟨rfl,rfl,trivial⟩ λ_=>?_
 refine jb (iI rfl) ?_
 refine aq ?_
 refine nt ?_
 refine aA ?_
 cases h
 exact aP () [_] 4 ⟨rfl,trivial⟩ rfl
def qY(k:Nat)(a0:ab)(a1:Int):Option ((List Int)×Int):=
 (jZ k a0 ([]:(List Int)) [a1] ([]:(List Int))).bind λr3=>
 gY r3.1 (if¬(r3.2.2=0) then(some (([]:(List Int)),r3.2.2)) else(none)) (λq4=>if¬(r3.2.2=0) then(some (([]:(List Int)),r3.2.2)) else((kL k (rM (λ(c:(List Int)) (e:Int)=>
  (nY k a0 a1 e).bind λr=>
  gY r (none) (λs=>(eZ k r3.2.1 s a1).bind λn=>
  if¬(n=true) then((bS (bi (length c+length [e]))).bind λ_=>
  some (c++[e],true)) else(some (c,true))))) a0.1 (([]:(List Int)),false)).bind λh=>
 if h.2=true then(none) else((qV k h.1).bind λl=>
 (jJ k l).bind λj=>
 some (j,0))))
theorem wR(k:Nat)(a0:ab)(a1:Int)(r:(List Int)×Int)(h:qY k a0 a1=some r):
 co (eu Tryz.prog) 45 [.rep am a0,I a1] [] (λ_:Unit=>(bC [.rep Tl r.1,I r.2],[])):=by
 unfold qY at h
 replace h:=aX h
 refine wn 44 Tryz.func45 rfl Tryz.ntmps45 rfl λS w0=>?_
 refine sr ?_
 refine bx λb1=>?_
 refine bx λb2=>?_
 refine cq ?_
 refine cq ?_
 refine nt ?_
 refine sr ?_
 refine fr 1 ?_
 refine lo dF ?_
 refine fr 1 ?_
 refine lo bQ ?_
 refine ja (aV (t:=Ti) [(.tmp 15,_)] [a1] rfl rfl cV (.cons rfl .int .nil) rfl rfl) ?_
 obtain⟨r3,Wc,h⟩:=aa h
 have y:=nX k a0 ([]:(List Int)) [a1] ([]:(List Int)) r3 Wc
 rcases hr:r3.1 with _ |q4
 .
  rw [hr] at h y;replace h:=wW h;refine aR (Δ:=[]) (F:=_) (λ_ _ _=>ai rfl _) rfl rfl (bR (N:=[(.tmp 14,.rep am a0),(.const (.slice none 0 0),.eq (.slice none 0 0)),(.tmp 16,.rep Tl [a1]),(.const (.slice none 0 0),.eq (.slice none 0 0))]) (bo [.tmp 14,.const (.slice none 0 0),.tmp 16,.const (.slice none 0 0)] rfl rfl Gf rfl y) λ_ _ _ hn=>⟨hn.1,(aM (t:=Tl) (x:=([]:(List Int))) .nil rfl rfl hn.2.1),hn.2.2.1,(aM (t:=Tl) (x:=([]:(List Int))) .nil rfl rfl hn.2.2.2.1),trivial⟩) ⟨rfl,rfl,rfl,rfl,trivial⟩ λ_=>?_;refine mq ?_;refine xr ?_;refine xr ?_;refine xr ?_;refine aW rfl rfl rfl (bv rfl Ky Nu) trivial λb5=>?_;refine aq ?_;refine aO rfl rfl (aN rfl yr rfl rfl rfl) ⟨rfl,rfl,trivial⟩ ?_;refine aq (nt (aj (sr ?_)));refine mq ?_;refine jb (d5 rfl) ?_;refine nt (cn h (λh=>?_) (λh=>?_))
  .refine sr (mq ?_);refine cq ?_;refine aq (nt (rx ?_));refine bK (eB (t:=Tl) (x:=([]:(List Int))) 4 rfl .nil rfl rfl) ?_;refine BR ?_;cases h;exact rb
  .cases h
 .
  rw [hr] at h y;replace h:=wV h;refine aR (Δ:=[]) (F:=_) (λ_ _ _=>ai rfl _) rfl rfl (bR (N:=[(.tmp 14,.rep am a0),(.const (.slice none 0 0),.eq (.slice none 0 0)),(.tmp 16,.rep Tl [a1]),(.const (.slice none 0 0),.eq (.slice none 0 0))]) (bo [.tmp 14,.const (.slice none 0 0),.tmp 16,.const (.slice none 0 0)] rfl rfl Gf rfl y) λ_ _ _ hn=>⟨hn.1,(aM (t:=Tl) (x:=([]:(List Int))) .nil rfl rfl hn.2.1),hn.2.2.1,(aM (t:=Tl) (x:=([]:(List Int))) .nil rfl rfl hn.2.2.2.1),trivial⟩) ⟨rfl,rfl,rfl,rfl,trivial⟩ λz6=>?_;refine mq ?_;refine xr ?_;refine xr ?_;refine xr ?_;refine aW rfl rfl rfl (bv rfl Ky Nu) trivial λb7=>?_;refine aq ?_;refine aO rfl rfl (aN rfl yr rfl rfl rfl) ⟨rfl,rfl,trivial⟩ ?_;refine aq (nt (aj (sr ?_)));refine mq ?_;refine jb (d5 rfl) ?_;refine nt (cn h (λh=>?_) (λh=>?_))
  .refine sr (mq ?_);refine cq ?_;refine aq (nt (rx ?_));refine bK (eB (t:=Tl) (x:=([]:(List Int))) 4 rfl .nil rfl rfl) ?_;refine BR ?_;cases h;exact rb
  .refine sk (sr (aW rfl rfl rfl (bv rfl Ky Nu) trivial λb8=>?_));refine nt (aj (sr (fl eU ?_)));refine fr 5 ?_;refine lo bQ ?_;refine aW rfl rfl rfl (ax [.tmp 25] rfl rfl SB rfl (sd a0.1)) ⟨rfl,trivial⟩ λb9=>?_;refine nt (ah (hP (SE.nil 78 (.int .u8)) ?_));refine dI 7 rfl ?_;refine dI 7 rfl ?_;refine dI 7 rfl ?_;refine dI 7 rfl ?_;refine dI 4 rfl ?_;refine dI 7 rfl ?_;refine dI 7 rfl ?_;refine dI 7 rfl ?_;obtain⟨u,qt,h⟩:=aa h;refine sK (Δ:=[.obj b9 3 (I a0.1),.obj b1 25 (.rep am a0),.obj b8 92 (.eq (.slice none 0 0)),.sl (.slice none 0 0) 78 (.int .u8) ([]:(List Int)),.obj b7 92 (.rep (.slice (.int .u8)) r3.2.1),.obj z6.1 135 (ba q4 z6.2),.inv z6.2 (cy k q4),.obj b2 3 (I a1)]) (F:=[]) (X:=Value) (J:=λ_=>QT u.2) (E:=λc=>[.obj b9 3 (I a0.1),.obj b1 25 (.rep am a0),.obj b8 92 (.eq c),.sl c 78 (.int .u8) u.1,.obj b7 92 (.rep (.slice (.int .u8)) r3.2.1),.obj z6.1 135 (ba q4 z6.2),.inv z6.2 (cy k q4),.obj b2 3 (I a1)]) (r0:=λ_=>.tup .any) rfl rfl Ov (λrec hp ha hb hs hpe hN hv l=>?_) (λdl c=>uV (λhj=>?_) (λhj=>?_))
   .rcases rec with⟨st0,pe0,fn0,tm0,ps0,as0,bd0,df0⟩;dsimp only at hp ha hb hs hpe hN hv;subst hp hs hpe;have vN:BM tm0 [(2,Pt b1),(3,Pt b2),(7,Pt b7),(9,Pt b8)]:=⟨congrArg A.eq (hv 2 _ rfl).symm,congrArg A.eq (hv 3 _ rfl).symm,congrArg A.eq (hv 7 _ rfl).symm,congrArg A.eq (hv 9 _ rfl).symm,trivial⟩;refine co.pick (M:=(eu Tryz.prog)) [1,0,2,3,4,5,6,7,8] [1,0,2,3,4,5,6,7,8] (pu (λ(c:Value) (q:(List Int)×Bool)=>[.raw l (.loop (k9 ⟨.ready,none,fn0,tm0, #[27],as0,bd0,df0⟩ (QT q.2))),.obj b1 25 (.rep am a0),.obj b8 92 (.eq c),.sl c 78 (.int .u8) q.1,.obj b7 92 (.rep (.slice (.int .u8)) r3.2.1),.obj z6.1 135 (ba q4 z6.2),.inv z6.2 (cy k q4),.obj b2 3 (I a1)]) l (rM (λ(n:(List Int)) (j:Int)=>
    (nY k a0 a1 j).bind λs=>
    gY s (none) (λO=>(eZ k r3.2.1 O a1).bind λD=>
    if¬(D=true) then((bS (bi (length n+length [j]))).bind λ_=>
    some (n++[j],true)) else(some (n,true))))) k a0.1 b9 (λc q p r' h=>?_) (.slice none 0 0) (([]:(List Int)),false) u qt) rfl (λ_=>rfl) (λ_=>rfl)
    obtain⟨rq,hq,h2,rfl⟩:=uW h;obtain⟨n,b5⟩:=q;obtain rfl:b5=false:=hq;replace h:=aX h2;obtain⟨j,hpv⟩:∃x,x=p:=⟨_,rfl⟩;subst hpv;refine YT.pick (R':=(λc:Value=>(.eq (.bool rq.2),[.raw l (.loop (k9 ⟨.ready,none,fn0,tm0, #[27],as0,bd0,df0⟩ (QT (!rq.2)))),.obj b1 25 (.rep am a0),.obj b8 92 (.eq c),.sl c 78 (.int .u8) rq.1,.obj b7 92 (.rep (.slice (.int .u8)) r3.2.1),.obj z6.1 135 (ba q4 z6.2),.inv z6.2 (cy k q4),.obj b2 3 (I a1)]))) [0,1,2,3,4,5,6,7] [0,1,2,3,4,5,6,7] (Jz ha hb (N:=44) (Γ:=[(2,Pt b1),(3,Pt b2),(7,Pt b7),(9,Pt b8)]) rfl hN (by decide) vN (λS w=>?_)) rfl (λ_=>rfl) (λ_=>rfl);refine ae (aq (nl ?_));refine BU rfl rfl ?_;refine ah (sr (fr 1 ?_));refine lo dF ?_;refine fr 7 ?_;refine lo bQ ?_;refine mq ?_;obtain⟨s,mw,h⟩:=aa h;have e:=wP k a0 a1 j s mw;rcases hr:s with _ |O
    .rw [hr] at h e;replace h:=wW h;refine aR (Δ:=[]) (F:=_) (λ_ _ _=>ai rfl _) rfl rfl (ax [.tmp 28,.tmp 29,.tmp 30] rfl rfl SA rfl e) ⟨rfl,rfl,rfl,trivial⟩ λ_=>?_;cases h
    .rw [hr] at h e;replace h:=wV h;refine aR (Δ:=[]) (F:=_) (λ_ _ _=>ai rfl _) rfl rfl (ax [.tmp 28,.tmp 29,.tmp 30] rfl rfl SA rfl e) ⟨rfl,rfl,rfl,trivial⟩ λQ=>?_;refine aW rfl rfl rfl (bv rfl Uh Vw) trivial λzz=>?_;refine aO rfl rfl (aN rfl KX rfl rfl rfl) ⟨rfl,rfl,trivial⟩ ?_;refine nt (sr (jb (s5 [] [.tmp 11,.tmp 3] [] [(Pv zz),(Pv b2)] rfl rfl rfl) ?_));refine aq (nt (sr ?_));refine fr 8 ?_;refine lo yr ?_;refine mq ?_;obtain⟨D,mc,h⟩:=aa h;refine fr 4 ?_;refine fr 2 ?_;refine fr 4 ?_;refine fr 4 ?_;refine aR (Δ:=[_,_,_,_]) (F:=_) (λ_ _ _=>ai rfl _) rfl rfl (bo [.tmp 33,.tmp 34] rfl rfl UU rfl (nq k r3.2.1 O Q.1 Q.2 zz a1 b2 D mc)) ⟨rfl,rfl,trivial⟩ λ_=>?_;refine ja (fh rfl) ?_;refine nt (cw h (λh=>?_) (λh=>?_))
     .refine ae (fr 7 ?_);refine lo yr ?_;refine mq ?_;refine ja (aV (t:=(.int .u8)) [(.tmp 38,_)] [j] rfl rfl K8 (.cons rfl .int .nil) rfl rfl) ?_;obtain⟨We,Y,h⟩:=aa h;refine fr 8 ?_;refine cR rfl rfl rfl (bp rfl rfl K8 (ap Y)) ⟨rfl,rfl,trivial⟩ λWa=>?_;refine ot λo22=>?_;refine fr 1 ?_;refine aO rfl rfl (aN rfl yr o22 rfl rfl) ⟨rfl,rfl,trivial⟩ ?_;refine aF (aI (bG 5 rfl ?_));refine bG 10 rfl ?_;refine bG 10 rfl ?_;refine bG 8 rfl ?_;refine bG 5 rfl ?_;refine bG 5 rfl ?_;refine bG 9 rfl ?_;refine bG 10 rfl ?_;cases h;exact qo Wa 7 rfl
     .refine aZ (aI (bG 3 rfl ?_));refine bG 10 rfl ?_;refine bG 10 rfl ?_;refine bG 6 rfl ?_;refine bG 10 rfl ?_;refine bG 10 rfl ?_;refine bG 9 rfl ?_;refine bG 10 rfl ?_;cases h;exact qo c 7 rfl
   .replace h:=cK (KQ hj) h;refine aI (tn (sr (fr 3 ?_)));refine lo yr ?_;obtain⟨U,gw,h⟩:=aa h;refine fr 4 ?_;refine kb (kl (N:=[(.tmp 41,.eq c),(.func 89,.eq (.func (.func 89) #[] #[]))]) (ax [.tmp 41,.func 89] rfl rfl U0 rfl (wQ k u.1 U gw)) (λ_ _ _ hv hn=>⟨(lend hn.1 hv),hn.2.1,trivial⟩) (λ_=>⟨rfl,nI⟩)) ?_;obtain⟨Wb,Z,h⟩:=aa h;refine ja (ax [.tmp 42] rfl rfl P8 rfl (lj k U Wb Z)) ?_;refine aq ?_;refine cq (nt (aA ?_));refine bG 2 rfl ?_;refine Fb ?_;cases h;exact rb
   .replace h:=ee (KP hj) h;cases h
def px(k:Nat):Option Bool:=
 (jq k ([]:(List aQ))).bind λr1=>
 (qZ k r1 [0]).bind λr2=>
 (jq k ([]:(List aQ))).bind λr3=>
 (rf k r3).bind λr4=>
 (jq k ([]:(List aQ))).bind λr5=>
 (ti k r5 2).bind λr6=>
 (jq k ([]:(List aQ))).bind λr8=>
 (tj k r8 [0] 3).bind λr9=>
 (jq k ([]:(List aQ))).bind λu=>
 (nD k u 2).bind λc=>
 (jq k ([]:(List aQ))).bind λs=>
 (qY k s 2).bind λe=>
 ((if r2.2=0 then(if r4.2=0 then(if r6.2=0 then(if r9.2=0 then(if c.2.2=0 then(if e.2=0 then(if r6.1=(1,3) then(if c.1=2 then(if c.2.1=2 then((fE k r2.1 [[1,(-1:Int),(-1:Int),(-1:Int)],[2,0,(-1:Int),(-1:Int)],[3,1,(-1:Int),(-1:Int)],[3,2,0,(-1:Int)],[(-1:Int),3,1,0]]).bind λr=>
 if r=true then((fE k r4.1 [[0],[0,1],[1]]).bind λn=>
 if n=true then((gr k r9.1 [0,1,3]).bind λl=>
 if l=true then((gr k e.1 [1,2]).bind λj=>
 some j) else(some false)) else(some false)) else(some false)) else(some false)) else(some false)) else(some false)) else(some false)) else(some false)) else(some false)) else(some false)) else(some false)) else(some false)):Option (Bool)).bind λh=>
 some h
theorem t9(k:Nat)(r:Bool)(h:px k=some r):
 co (eu Tryz.prog) 11 [] [] (λ_:Unit=>(bC [.eq (.bool r)],[])):=by
 unfold px at h
 replace h:=aX h
 refine co.of 110 Tryz.func11 rfl Tryz.ntmps11 rfl λS w0=>?_
 refine sr ?_
 refine cq ?_
 refine nt ?_
 refine sr ?_
 obtain⟨r1,Wi,h⟩:=aa h
 have Wu:=iD k ([]:(List aQ)) r1 Wi
 refine ja (bR (N:=[(.const (.slice none 0 0),.eq (.slice none 0 0))]) (ax [.const (.slice none 0 0)] rfl rfl Gi rfl Wu) λ_ _ _ hn=>⟨(aM (t:=(.slice aJ)) (x:=([]:(List aQ))) .nil rfl rfl hn.1),trivial⟩) ?_
 refine ja (aV (t:=Ti) [(.const (.int .i64 (0)),_)] [0] rfl rfl cV (.cons rfl .int .nil) rfl rfl) ?_
 obtain⟨r2,Wh,h⟩:=aa h
 have Wt:=wS k r1 [0] r2 Wh
 refine jb (bo [.tmp 15,.tmp 16] rfl rfl Vq rfl Wt) ?_
 refine mq ?_
 refine xr ?_
 refine xr ?_
 refine aq ?_
 refine aq ?_
 refine nt ?_
 refine sr ?_
 obtain⟨r3,Wg,h⟩:=aa h
 have Ws:=iD k ([]:(List aQ)) r3 Wg
 refine ja (bR (N:=[(.const (.slice none 0 0),.eq (.slice none 0 0))]) (ax [.const (.slice none 0 0)] rfl rfl Gi rfl Ws) λ_ _ _ hn=>⟨(aM (t:=(.slice aJ)) (x:=([]:(List aQ))) .nil rfl rfl hn.1),trivial⟩) ?_
 obtain⟨r4,We,h⟩:=aa h
 have Wq:=wT k r3 r4 We
 refine ja (bo [.tmp 21] rfl rfl Vl rfl Wq) ?_
 refine mq ?_
 refine xr ?_
 refine xr ?_
 refine aq ?_
 refine aq ?_
 refine nt ?_
 refine sr ?_
 obtain⟨r5,Wc,h⟩:=aa h
 have Wp:=iD k ([]:(List aQ)) r5 Wc
 refine ja (bR (N:=[(.const (.slice none 0 0),.eq (.slice none 0 0))]) (ax [.const (.slice none 0 0)] rfl rfl Gi rfl Wp) λ_ _ _ hn=>⟨(aM (t:=(.slice aJ)) (x:=([]:(List aQ))) .nil rfl rfl hn.1),trivial⟩) ?_
 obtain⟨r6,Wb,h⟩:=aa h
 have Wn:=yQ k r5 2 r6 Wb
 refine jb (bo [.tmp 26,.const (.int .i64 (2))] rfl rfl Vi rfl Wn) ?_
 refine mq ?_
 refine xr ?_
 refine xr ?_
 refine aW rfl rfl rfl (bv rfl Ci TB) trivial λb7=>?_
 refine aO rfl rfl (aN rfl wF rfl rfl rfl) ⟨rfl,rfl,trivial⟩ ?_
 refine aq ?_
 refine nt ?_
 refine sr ?_
 obtain⟨r8,Wa,h⟩:=aa h
 have Wm:=iD k ([]:(List aQ)) r8 Wa
 refine ja (bR (N:=[(.const (.slice none 0 0),.eq (.slice none 0 0))]) (ax [.const (.slice none 0 0)] rfl rfl Gi rfl Wm) λ_ _ _ hn=>⟨(aM (t:=(.slice aJ)) (x:=([]:(List aQ))) .nil rfl rfl hn.1),trivial⟩) ?_
 refine ja (aV (t:=Ti) [(.const (.int .i64 (0)),_)] [0] rfl rfl cV (.cons rfl .int .nil) rfl rfl) ?_
 obtain⟨r9,zz,h⟩:=aa h
 have Wj:=yS k r8 [0] 3 r9 zz
 refine jc (bo [.tmp 31,.tmp 32,.const (.int .i64 (3))] rfl rfl Vj rfl Wj) ?_
 refine mq ?_
 refine xr ?_
 refine xr ?_
 refine aq ?_
 refine aq ?_
 refine nt ?_
 refine sr ?_
 obtain⟨u,O,h⟩:=aa h
 have Y:=iD k ([]:(List aQ)) u O
 refine ja (bR (N:=[(.const (.slice none 0 0),.eq (.slice none 0 0))]) (ax [.const (.slice none 0 0)] rfl rfl Gi rfl Y) λ_ _ _ hn=>⟨(aM (t:=(.slice aJ)) (x:=([]:(List aQ))) .nil rfl rfl hn.1),trivial⟩) ?_
 obtain⟨qt,M,h⟩:=aa h
 have X:=t6 k u 2 qt M
 refine jb (bo [.tmp 37,.const (.int .i64 (2))] rfl rfl SQ rfl X) ?_
 refine mq ?_
 refine xr ?_
 refine xr ?_
 refine xr ?_
 refine aq ?_
 refine aq ?_
 refine aq ?_
 refine nt ?_
 refine sr ?_
 obtain⟨n,J,h⟩:=aa h
 have U:=iD k ([]:(List aQ)) n J
 refine ja (bR (N:=[(.const (.slice none 0 0),.eq (.slice none 0 0))]) (ax [.const (.slice none 0 0)] rfl rfl Gi rfl U) λ_ _ _ hn=>⟨(aM (t:=(.slice aJ)) (x:=([]:(List aQ))) .nil rfl rfl hn.1),trivial⟩) ?_
 obtain⟨l,I,h⟩:=aa h
 have Q:=wR k n 2 l I
 refine jb (bo [.tmp 43,.const (.int .i64 (2))] rfl rfl Vh rfl Q) ?_
 refine mq ?_
 refine xr ?_
 refine xr ?_
 refine aq ?_
 refine aq ?_
 refine nt ?_
 refine aE (Z:=Unit) (α:=Bool) (λe c=>[(0,.eq (.bool c))]) (λe c=>[]) h (λK h=>?_) (λe c h=>?_)
 .
  refine ae (mq ?_);refine jb (jE rfl) ?_;refine mq ?_;refine cf (s:=49) rfl (λhb=>?_) (λhb=>?_)
  .replace h:=ee (vM hb) h;refine gm ?_;refine gb (jE rfl) ?_;refine pt ?_;refine mq ?_;refine cf (s:=53) rfl (λhb=>?_) (λhb=>?_)
   .replace h:=ee (vM hb) h;refine gm ?_;refine gb (jE rfl) ?_;refine pt ?_;refine mq ?_;refine cf (s:=57) rfl (λhb=>?_) (λhb=>?_)
    .replace h:=ee (vM hb) h;refine gm ?_;refine gb (jE rfl) ?_;refine pt ?_;refine mq ?_;refine cf (s:=61) rfl (λhb=>?_) (λhb=>?_)
     .replace h:=ee (vM hb) h;refine gm ?_;refine gb (jE rfl) ?_;refine pt ?_;refine mq ?_;refine cf (s:=65) rfl (λhb=>?_) (λhb=>?_)
      .replace h:=ee (vM hb) h;refine gm ?_;refine gb (jE rfl) ?_;refine pt ?_;refine mq ?_;refine cf (s:=69) rfl (λhb=>?_) (λhb=>?_)
       .replace h:=ee (vM hb) h;refine eP rfl rfl rfl rfl rfl rfl (an rfl wF (oL) rfl) ⟨rfl,trivial⟩ ?_;refine gb (eC [(0,.const (.int .i64 (1)),_),(1,.const (.int .i64 (3)),_)] rfl Ic Ci BI (kG ⟨rfl,rfl,trivial⟩) rfl) ?_;refine eD (eB (t:=bV) (x:=(1,3)) 71 rfl (.agg (.pair .int .int)) trivial rfl) ?_;refine gb (PL rfl UQ rfl) ?_;refine pt ?_;refine mq ?_;refine cf (s:=74) rfl (λhb=>?_) (λhb=>?_)
        .replace h:=ee (vM hb) h;refine gm ?_;refine gb (jE rfl) ?_;refine pt ?_;refine mq ?_;refine cf (s:=78) rfl (λhb=>?_) (λhb=>?_)
         .replace h:=ee (vM hb) h;refine gm ?_;refine gb (jE rfl) ?_;refine pt ?_;refine mq ?_;refine cf (s:=82) rfl (λhb=>?_) (λhb=>?_)
          .replace h:=ee (vM hb) h;refine gm ?_;refine ng rfl rfl rfl rfl rfl rfl (aV (t:=Ti) [(.const (.int .i64 (1)),_),(.const (.int .i64 (-1)),_),(.const (.int .i64 (-1)),_),(.const (.int .i64 (-1)),_)] [1,(-1:Int),(-1:Int),(-1:Int)] rfl rfl cV (.cons rfl .int (.cons rfl .int (.cons rfl .int (.cons rfl .int .nil)))) rfl rfl) ⟨rfl,rfl,rfl,rfl,trivial⟩ ?_;refine ng rfl rfl rfl rfl rfl rfl (aV (t:=Ti) [(.const (.int .i64 (2)),_),(.const (.int .i64 (0)),_),(.const (.int .i64 (-1)),_),(.const (.int .i64 (-1)),_)] [2,0,(-1:Int),(-1:Int)] rfl rfl cV (.cons rfl .int (.cons rfl .int (.cons rfl .int (.cons rfl .int .nil)))) rfl rfl) ⟨rfl,rfl,rfl,rfl,trivial⟩ ?_;refine ng rfl rfl rfl rfl rfl rfl (aV (t:=Ti) [(.const (.int .i64 (3)),_),(.const (.int .i64 (1)),_),(.const (.int .i64 (-1)),_),(.const (.int .i64 (-1)),_)] [3,1,(-1:Int),(-1:Int)] rfl rfl cV (.cons rfl .int (.cons rfl .int (.cons rfl .int (.cons rfl .int .nil)))) rfl rfl) ⟨rfl,rfl,rfl,rfl,trivial⟩ ?_;refine ng rfl rfl rfl rfl rfl rfl (aV (t:=Ti) [(.const (.int .i64 (3)),_),(.const (.int .i64 (2)),_),(.const (.int .i64 (0)),_),(.const (.int .i64 (-1)),_)] [3,2,0,(-1:Int)] rfl rfl cV (.cons rfl .int (.cons rfl .int (.cons rfl .int (.cons rfl .int .nil)))) rfl rfl) ⟨rfl,rfl,rfl,rfl,trivial⟩ ?_;refine ng rfl rfl rfl rfl rfl rfl (aV (t:=Ti) [(.const (.int .i64 (-1)),_),(.const (.int .i64 (3)),_),(.const (.int .i64 (1)),_),(.const (.int .i64 (0)),_)] [(-1:Int),3,1,0] rfl rfl cV (.cons rfl .int (.cons rfl .int (.cons rfl .int (.cons rfl .int .nil)))) rfl rfl) ⟨rfl,rfl,rfl,rfl,trivial⟩ ?_;refine ng rfl rfl rfl rfl rfl rfl (aV (t:=Tl) [(.tmp 84,_),(.tmp 85,_),(.tmp 86,_),(.tmp 87,_),(.tmp 88,_)] [[1,(-1:Int),(-1:Int),(-1:Int)],[2,0,(-1:Int),(-1:Int)],[3,1,(-1:Int),(-1:Int)],[3,2,0,(-1:Int)],[(-1:Int),3,1,0]] rfl rfl lT (.cons rfl .rep (.cons rfl .rep (.cons rfl .rep (.cons rfl .rep (.cons rfl .rep .nil))))) rfl rfl) ⟨rfl,rfl,rfl,rfl,rfl,trivial⟩ ?_;obtain⟨mw,F,h⟩:=aa h;refine gb (ax [.tmp 83,.tmp 89] rfl rfl Qc rfl (j8 k r2.1 [[1,(-1:Int),(-1:Int),(-1:Int)],[2,0,(-1:Int),(-1:Int)],[3,1,(-1:Int),(-1:Int)],[3,2,0,(-1:Int)],[(-1:Int),3,1,0]] mw F)) ?_;refine pt ?_;refine mq ?_;refine cf (s:=92) rfl (λhb=>?_) (λhb=>?_)
           .replace h:=ee (KP hb) h;refine gm ?_;refine ga (aV (t:=Ti) [(.const (.int .i64 (0)),_)] [0] rfl rfl cV (.cons rfl .int .nil) rfl rfl) ?_;refine gb (aV (t:=Ti) [(.const (.int .i64 (0)),_),(.const (.int .i64 (1)),_)] [0,1] rfl rfl cV (.cons rfl .int (.cons rfl .int .nil)) rfl rfl) ?_;refine ga (aV (t:=Ti) [(.const (.int .i64 (1)),_)] [1] rfl rfl cV (.cons rfl .int .nil) rfl rfl) ?_;refine gc (aV (t:=Tl) [(.tmp 94,_),(.tmp 95,_),(.tmp 96,_)] [[0],[0,1],[1]] rfl rfl lT (.cons rfl .rep (.cons rfl .rep (.cons rfl .rep .nil))) rfl rfl) ?_;obtain⟨mc,E,h⟩:=aa h;refine gb (ax [.tmp 93,.tmp 97] rfl rfl Qc rfl (j8 k r4.1 [[0],[0,1],[1]] mc E)) ?_;refine pt ?_;refine mq ?_;refine cf (s:=100) rfl (λhb=>?_) (λhb=>?_)
            .replace h:=ee (KP hb) h;refine gm ?_;refine gc (aV (t:=Ti) [(.const (.int .i64 (0)),_),(.const (.int .i64 (1)),_),(.const (.int .i64 (3)),_)] [0,1,3] rfl rfl cV (.cons rfl .int (.cons rfl .int (.cons rfl .int .nil))) rfl rfl) ?_;obtain⟨gw,D,h⟩:=aa h;refine gb (ax [.tmp 101,.tmp 102] rfl rfl Qb rfl (lm k r9.1 [0,1,3] gw D)) ?_;refine pt ?_;refine mq ?_;refine cf (s:=105) rfl (λhb=>?_) (λhb=>?_)
             .replace h:=ee (KP hb) h;refine gm ?_;refine gb (aV (t:=Ti) [(.const (.int .i64 (1)),_),(.const (.int .i64 (2)),_)] [1,2] rfl rfl cV (.cons rfl .int (.cons rfl .int .nil)) rfl rfl) ?_;obtain⟨j,y,h⟩:=aa h;refine gb (ax [.tmp 106,.tmp 107] rfl rfl Qb rfl (lm k l.1 [1,2] j y)) ?_;refine pt ?_;refine aq (nl ?_);exact jz ((),j) h []
             .replace h:=cK (KQ hb) h;iterate 3 refine gn ?_
              refine pf ?_;refine aq (nl ?_);exact jz ((),false) h []
            .replace h:=cK (KQ hb) h;iterate 3 refine gn ?_
             refine pf ?_;refine mq ?_;iterate 3 refine gn ?_
             refine pf ?_;refine aq (nl ?_);exact jz ((),false) h []
           .replace h:=cK (KQ hb) h;iterate 6 refine gn ?_
            refine pf ?_;refine mq ?_;iterate 3 refine gn ?_
            refine pf ?_;refine mq ?_;iterate 3 refine gn ?_
            refine pf ?_;refine aq (nl ?_);exact jz ((),false) h []
          .replace h:=cK (vO hb) h;iterate 8 refine gn ?_
           refine pf ?_;refine mq ?_;iterate 6 refine gn ?_
           refine pf ?_;refine mq ?_;iterate 3 refine gn ?_
           refine pf ?_;refine mq ?_;iterate 3 refine gn ?_
           refine pf ?_;refine aq (nl ?_);exact jz ((),false) h []
         .replace h:=cK (vO hb) h;iterate 2 refine gn ?_
          refine pf ?_;refine mq ?_;iterate 8 refine gn ?_
          refine pf ?_;refine mq ?_;iterate 6 refine gn ?_
          refine pf ?_;refine mq ?_;iterate 3 refine gn ?_
          refine pf ?_;refine mq ?_;iterate 3 refine gn ?_
          refine pf ?_;refine aq (nl ?_);exact jz ((),false) h []
        .replace h:=cK (vO hb) h;iterate 2 refine gn ?_
         refine pf ?_;refine mq ?_;iterate 2 refine gn ?_
         refine pf ?_;refine mq ?_;iterate 8 refine gn ?_
         refine pf ?_;refine mq ?_;iterate 6 refine gn ?_
         refine pf ?_;refine mq ?_;iterate 3 refine gn ?_
         refine pf ?_;refine mq ?_;iterate 3 refine gn ?_
         refine pf ?_;refine aq (nl ?_);exact jz ((),false) h []
       .replace h:=cK (vO hb) h;iterate 3 refine gn ?_
        refine pf ?_;refine mq ?_;iterate 2 refine gn ?_
        refine pf ?_;refine mq ?_;iterate 2 refine gn ?_
        refine pf ?_;refine mq ?_;iterate 8 refine gn ?_
        refine pf ?_;refine mq ?_;iterate 6 refine gn ?_
        refine pf ?_;refine mq ?_;iterate 3 refine gn ?_
        refine pf ?_;refine mq ?_;iterate 3 refine gn ?_
        refine pf ?_;refine aq (nl ?_);exact jz ((),false) h []
      .replace h:=cK (vO hb) h;iterate 2 refine gn ?_
       refine pf ?_;refine mq ?_;iterate 3 refine gn ?_
       refine pf ?_;refine mq ?_;iterate 2 refine gn ?_
       refine pf ?_;refine mq ?_;iterate 2 refine gn ?_
       refine pf ?_;refine mq ?_;iterate 8 refine gn ?_
       refine pf ?_;refine mq ?_;iterate 6 refine gn ?_
       refine pf ?_;refine mq ?_;iterate 3 refine gn ?_
       refine pf ?_;refine mq ?_;iterate 3 refine gn ?_
       refine pf ?_;refine aq (nl ?_);exact jz ((),false) h []
     .replace h:=cK (vO hb) h;iterate 2 refine gn ?_
      refine pf ?_;refine mq ?_;iterate 2 refine gn ?_
      refine pf ?_;refine mq ?_;iterate 3 refine gn ?_
      refine pf ?_;refine mq ?_;iterate 2 refine gn ?_
      refine pf ?_;refine mq ?_;iterate 2 refine gn ?_
      refine pf ?_;refine mq ?_;iterate 8 refine gn ?_
      refine pf ?_;refine mq ?_;iterate 6 refine gn ?_
      refine pf ?_;refine mq ?_;iterate 3 refine gn ?_
      refine pf ?_;refine mq ?_;iterate 3 refine gn ?_
      refine pf ?_;refine aq (nl ?_);exact jz ((),false) h []
    .replace h:=cK (vO hb) h;iterate 2 refine gn ?_
     refine pf ?_;refine mq ?_;iterate 2 refine gn ?_
     refine pf ?_;refine mq ?_;iterate 2 refine gn ?_
     refine pf ?_;refine mq ?_;iterate 3 refine gn ?_
     refine pf ?_;refine mq ?_;iterate 2 refine gn ?_
     refine pf ?_;refine mq ?_;iterate 2 refine gn ?_
     refine pf ?_;refine mq ?_;iterate 8 refine gn ?_
     refine pf ?_;refine mq ?_;iterate 6 refine gn ?_
     refine pf ?_;refine mq ?_;iterate 3 refine gn ?_
     refine pf ?_;refine mq ?_;iterate 3 refine gn ?_
     refine pf ?_;refine aq (nl ?_);exact jz ((),false) h []
   .replace h:=cK (vO hb) h;iterate 2 refine gn ?_
    refine pf ?_;refine mq ?_;iterate 2 refine gn ?_
    refine pf ?_;refine mq ?_;iterate 2 refine gn ?_
    refine pf ?_;refine mq ?_;iterate 2 refine gn ?_
    refine pf ?_;refine mq ?_;iterate 3 refine gn ?_
    refine pf ?_;refine mq ?_;iterate 2 refine gn ?_
    refine pf ?_;refine mq ?_;iterate 2 refine gn ?_
    refine pf ?_;refine mq ?_;iterate 8 refine gn ?_
    refine pf ?_;refine mq ?_;iterate 6 refine gn ?_
    refine pf ?_;refine mq ?_;iterate 3 refine gn ?_
    refine pf ?_;refine mq ?_;iterate 3 refine gn ?_
    refine pf ?_;refine aq (nl ?_);exact jz ((),false) h []
  .replace h:=cK (vO hb) h;iterate 2 refine gn ?_
   refine pf ?_;refine mq ?_;iterate 2 refine gn ?_
   refine pf ?_;refine mq ?_;iterate 2 refine gn ?_
   refine pf ?_;refine mq ?_;iterate 2 refine gn ?_
   refine pf ?_;refine mq ?_;iterate 2 refine gn ?_
   refine pf ?_;refine mq ?_;iterate 3 refine gn ?_
   refine pf ?_;refine mq ?_;iterate 2 refine gn ?_
   refine pf ?_;refine mq ?_;iterate 2 refine gn ?_
   refine pf ?_;refine mq ?_;iterate 8 refine gn ?_
   refine pf ?_;refine mq ?_;iterate 6 refine gn ?_
   refine pf ?_;refine mq ?_;iterate 3 refine gn ?_
   refine pf ?_;refine mq ?_;iterate 3 refine gn ?_
   refine pf ?_;refine aq (nl ?_);exact jz ((),false) h []
 .
  refine aA ?_;cases h;exact ra
def fN(k:Nat)(r4:(List Int)×bP):Nat->((List Int)×Int×Int×Int×(List (List Int)))->Option ((List Int)×Int×Int×(List (List Int)))
 |0,_=>none
 |n+1,y7=>
  if y7.2.2.2.1 < (r4.1.length:Int) then((((fF k (y7.1,y7.2.1,y7.2.2.1) 5).bind λc=>
  if c.1=true then(some (c.2.1,c.2.2.1,c.2.2.2,y7.2.2.2.2)) else((ck ((y7.2.2.2.2.length:Int) - 1)).bind λr=>
  (cg k (c.2.1,c.2.2.1,c.2.2.2) r).bind λe=>
  (aG y7.2.2.2.2 e.1).bind λj=>
  (aG r4.1 y7.2.2.2.1).bind λh=>
  (bS (bi (length j+length [h]))).bind λ_=>
  some (e.2.1,e.2.2.1,e.2.2.2,List.set y7.2.2.2.2 (Int.toNat e.1) (j++[h])))):Option ((List Int)×Int×Int×(List (List Int)))).bind λx9=>
  (ck (y7.2.2.2.1+1)).bind λl=>
  fN k r4 n (x9.1,x9.2.1,x9.2.2.1,l,x9.2.2.2)) else(some (y7.1,y7.2.1,y7.2.2.1,y7.2.2.2.2))
def kM(k:Nat)(a0:bP)(a1:Int):Option ((List (List Int))×bP):=
 (f8 k (a0.1,a0.2.1,a0.2.2) 1 3).bind λr1=>
 (bS (0≤r1.1/\bi (Int.toNat r1.1))).bind λ_=>
 (iy k (r1.2.1,r1.2.2.1,r1.2.2.2) a1).bind λr4=>
 ((fN k r4 k (r4.2.1,r4.2.2.1,r4.2.2.2,0,List.replicate (Int.toNat r1.1) ([]:(List Int)))):Option ((List Int)×Int×Int×(List (List Int)))).bind λx5=>
 some (x5.2.2.2,(x5.1,x5.2.1,x5.2.2.1))
theorem vA(k:Nat)(a0:bP)(c:Nat)(a1:Int)(r:(List (List Int))×bP)(h:kM k a0 a1=some r):
 cT Tryz.prog 100 [Pt c,I a1] [.obj c 74 (.agg (.pair (.rep Tl a0.1) (.pair (I a0.2.1) (.eq (.int .u64 a0.2.2)))))] (λ_:Unit=>(bC [.rep (.slice Tl) r.1],[.obj c 74 (.agg (.pair (.rep Tl r.2.1) (.pair (I r.2.2.1) (.eq (.int .u64 r.2.2.2)))))])):=by
 unfold kM at h
 replace h:=aX h
 refine cT.of 42 Tryz.func100 rfl Tryz.ntmps100 rfl λS w0=>?_
 refine sr ?_
 refine cq ?_
 refine nt ?_
 refine sr ?_
 refine mq ?_
 obtain⟨r1,Wm,h⟩:=aa h
 have Wp:=jO k (a0.1,a0.2.1,a0.2.2) c 1 3 r1 Wm
 refine kc (ax [.tmp 9,.const (.int .i64 (1)),.const (.int .i64 (3))] rfl rfl MP rfl Wp) ?_
 obtain⟨u2,U,h⟩:=aa h
 refine aW rfl rfl rfl (PK (t:=.val) (d:=.slice none 0 0) rfl lT QV (ap U).1 (ap U).2) ⟨rfl,rfl,trivial⟩ λv3=>?_
 refine eD (JL (F:=[.obj c 74 (.agg (.pair (.rep Tl r1.2.1) (.pair (I r1.2.2.1) (.eq (.int .u64 r1.2.2.2)))))])) ?_
 refine aq ?_
 refine nt ?_
 refine sr ?_
 iterate 2 refine mq ?_
 obtain⟨r4,Wj,h⟩:=aa h
 have Wn:=so k (r1.2.1,r1.2.2.1,r1.2.2.2) c a1 r4 Wj
 refine kb (ax [.tmp 12,.tmp 13] rfl rfl S7 rfl Wn) ?_
 refine aq ?_
 refine nt ?_
 refine aE (Z:=(Value×(Nat->Value))) (α:=(List Int)×Int×Int×(List (List Int))) (λz6 x5=>[(5,.eq z6.1)]) (λz6 x5=>[.obj c 74 (.agg (.pair (.rep Tl x5.1) (.pair (I x5.2.1) (.eq (.int .u64 x5.2.2.1)))))]++yI 28 z6 x5.2.2.2) h (λK h=>?_) (λz6 x5 h=>?_)
 .
  refine sr (cq (nt (ah ?_)));refine aC (Z:=(Value×(Nat->Value))) (α:=(List Int)×Int×Int×Int×(List (List Int))) (λz8 y7=>[(0,Pt c),(5,.eq z8.1),(6,.rep Tl r4.1),(7,I y7.2.2.2.1)]) (λz8 y7=>[.obj c 74 (.agg (.pair (.rep Tl y7.1) (.pair (I y7.2.1) (.eq (.int .u64 y7.2.2.1)))))]++yI 28 z8 y7.2.2.2.2) (fN k r4) k (v3,λ_=>.slice none 0 0) (r4.2.1,r4.2.2.1,r4.2.2.2,0,List.replicate (Int.toNat r1.1) ([]:(List Int))) (λ_=>rfl) h (lH [.obj c 74 (.agg (.pair (.rep Tl r4.2.1) (.pair (I r4.2.2.1) (.eq (.int .u64 r4.2.2.2)))))] (yI 28 (v3,λ_=>.slice none 0 0) (List.replicate (Int.toNat r1.1) ([]:(List Int)))) [0] ⟨rfl,rfl,rfl,rfl,trivial⟩ rfl) (λn z8 y7 h=>?_);unfold fN at h;refine aj (sr ?_);iterate 2 refine mq ?_
  refine ol gA ?_;refine jb (bj rfl) ?_;refine nt (ci h (λh=>?_) (λh=>?_))
  .refine sk (aE (Z:=(Value×(Nat->Value))) (α:=(List Int)×Int×Int×(List (List Int))) (λy x9=>[(0,Pt c),(5,.eq y.1),(6,.rep Tl r4.1),(7,I y7.2.2.2.1)]) (λy x9=>[.obj c 74 (.agg (.pair (.rep Tl x9.1) (.pair (I x9.2.1) (.eq (.int .u64 x9.2.2.1)))))]++yI 28 y x9.2.2.2) h (λK h=>?_) (λy x9 h=>?_))
   .refine ah (aj (sr (mq ?_)));obtain⟨j,gw,h⟩:=aa h;refine kb (ax [.tmp 21,.const (.int .i64 (5))] rfl rfl P9 rfl (j9 k (y7.1,y7.2.1,y7.2.2.1) c 5 j gw)) ?_;refine nt (cv h (λh=>?_) (λh=>?_))
    .refine fA (bJ (cZ (av ?_)));exact wi (z8,(j.2.1,j.2.2.1,j.2.2.2,y7.2.2.2.2)) h (lH [.obj c 74 (.agg (.pair (.rep Tl j.2.1) (.pair (I j.2.2.1) (.eq (.int .u64 j.2.2.2)))))] (yI 28 z8 y7.2.2.2.2) [0] ⟨rfl,rfl,rfl,rfl,trivial⟩ rfl)
    .refine sk (sr ?_);iterate 2 refine mq ?_
     refine JW (pre:=[.obj c 74 (.agg (.pair (.rep Tl j.2.1) (.pair (I j.2.2.1) (.eq (.int .u64 j.2.2.2)))))]) rfl rfl rfl rfl rfl nK ⟨rfl,trivial⟩ ?_;obtain⟨mw,Q,h⟩:=aa h;refine jb (eo rfl Q) ?_;obtain⟨e,Y,h⟩:=aa h;refine kb (ax [.tmp 23,.tmp 26] rfl rfl vJ rfl (cD k (j.2.1,j.2.2.1,j.2.2.2) c mw e Y)) ?_;refine aq (nt ?_);obtain⟨x,s,h⟩:=aa h;refine hP (GM (pre:=[.obj c 74 (.agg (.pair (.rep Tl e.2.1) (.pair (I e.2.2.1) (.eq (.int .u64 e.2.2.2)))))]) (EF s).2) ?_;obtain⟨u,O,h⟩:=aa h;obtain⟨u16,X,h⟩:=aa h;refine JZ (Δ:=[.sl (z8.2 (Int.toNat e.1)) 3 Ti x,.sl z8.1 28 .val (oP z8.2 0 y7.2.2.2.2),.obj c 74 (.agg (.pair (.rep Tl e.2.1) (.pair (I e.2.2.1) (.eq (.int .u64 e.2.2.2)))))]) (F:=(oH z8.2 0 y7.2.2.2.2).eraseIdx (Int.toNat e.1)) (Z:=Value) (λi=>[(0,Pt c),(5,.eq z8.1),(6,.rep Tl r4.1),(7,I y7.2.2.2.1)]) (λi=>[.sl z8.1 28 .val (List.set (oP z8.2 0 y7.2.2.2.2) (Int.toNat e.1) i),.sl i 3 Ti (x++[u]),.obj c 74 (.agg (.pair (.rep Tl e.2.1) (.pair (I e.2.2.1) (.eq (.int .u64 e.2.2.2)))))]) (λS w=>?_) (λl=>?_)
     .refine sL ?_;refine bX rfl rfl rfl (aY rfl) ⟨rfl,trivial⟩ ?_;refine bX rfl rfl rfl (aY rfl) ⟨rfl,trivial⟩ ?_;refine bX rfl rfl rfl (aY rfl) ⟨rfl,trivial⟩ ?_;refine bX rfl rfl rfl (aY rfl) ⟨rfl,trivial⟩ ?_;refine iN 1 rfl rfl rfl rfl (cI (t:=.val) rfl nK eT (uA s)) ⟨rfl,rfl,trivial⟩ ?_;refine iN 1 rfl rfl rfl rfl (gU (i:=Int.toNat e.1) (off:=0) rfl eT (λ_=>rfl) rfl (dJ (uA s)).2.2 rfl) ⟨rfl,trivial⟩ ?_;refine bX rfl rfl rfl (aY rfl) ⟨rfl,trivial⟩ ?_;refine bX rfl rfl rfl (aY rfl) ⟨rfl,trivial⟩ ?_;refine bX rfl rfl rfl (aD (t:=Ti) rfl gA bQ O) ⟨rfl,rfl,trivial⟩ ?_;refine bX rfl rfl rfl (ao (t:=Ti) rfl bQ rfl) ⟨rfl,trivial⟩ ?_;refine bX rfl rfl rfl (aV (t:=Ti) [(.tmp 37,_)] [u] rfl rfl cV (.cons rfl .int .nil) rfl rfl) ⟨rfl,trivial⟩ ?_;refine J8 0 rfl (λv=>[.sl v 3 Ti (x++[u])]) (λ_=>rfl) rfl rfl rfl (bp rfl rfl cV (ap X)) ⟨rfl,rfl,trivial⟩ ?_;refine wl 12 [true,true,true,true,true,true,true,true,true,true,true,true] [40] [] [] rfl (by kernel_rfl) (by kernel_rfl) (by kernel_rfl) cQ (λvs hv hB=>?_);obtain⟨w0,WG,rfl,Wi⟩:=aH hv;obtain⟨w1,WE,rfl,Wh⟩:=aH Wi;obtain⟨w2,WC,rfl,Wg⟩:=aH Wh;obtain⟨w3,WB,rfl,We⟩:=aH Wg;obtain⟨w4,WA,rfl,Wc⟩:=aH We;obtain⟨w5,Wz,rfl,Wb⟩:=aH Wc;obtain⟨w6,Wy,rfl,Wa⟩:=aH Wb;obtain⟨w7,Wx,rfl,zz⟩:=aH Wa;obtain⟨w8,Wv,rfl,qt⟩:=aH zz;obtain⟨w9,Wt,rfl,J⟩:=aH qt;obtain⟨Wu,Ws,rfl,E⟩:=aH J;obtain⟨l,Wq,rfl,D⟩:=aH E;obtain rfl:=sj D;refine⟨[0,1,2],[.sl z8.1 28 .val (oP z8.2 0 y7.2.2.2.2),.obj c 74 (.agg (.pair (.rep Tl e.2.1) (.pair (I e.2.2.1) (.eq (.int .u64 e.2.2.2))))),.sl l 3 Ti (x++[u])],by kernel_rfl,by decide,?_⟩;refine we rfl rfl rfl rfl (cI (t:=.val) rfl nK eT (uA s)) ⟨rfl,rfl,trivial⟩ (by kernel_rfl) ?_;refine sJ 2 rfl ?_;refine QA λo18=>?_;refine sJ 1 rfl ?_;refine tV rfl rfl (ik (i:=Int.toNat e.1) rfl eT rfl (od (uA s)) rfl (.val o18) o18) ⟨rfl,rfl,trivial⟩ (by kernel_rfl) ?_;refine zG ?_;refine bK (SE.fin (Γ':=[(0,Pt c),(5,.eq z8.1),(6,.rep Tl r4.1),(7,I y7.2.2.2.1)]) (Δ':=[.sl z8.1 28 .val (List.set (oP z8.2 0 y7.2.2.2.2) (Int.toNat e.1) l),.sl l 3 Ti (x++[u]),.obj c 74 (.agg (.pair (.rep Tl e.2.1) (.pair (I e.2.2.1) (.eq (.int .u64 e.2.2.2)))))]) [0,1,2] ⟨rfl,rfl,rfl,rfl,trivial⟩ rfl) ?_;exact λa w st=>⟨rfl,(l),(SE.fin (Γ':=[(0,Pt c),(5,.eq z8.1),(6,.rep Tl r4.1),(7,I y7.2.2.2.1)]) (Δ':=[.sl z8.1 28 .val (List.set (oP z8.2 0 y7.2.2.2.2) (Int.toNat e.1) l),.sl l 3 Ti (x++[u]),.obj c 74 (.agg (.pair (.rep Tl e.2.1) (.pair (I e.2.2.1) (.eq (.int .u64 e.2.2.2)))))]) [0,1,2] ⟨rfl,rfl,rfl,rfl,trivial⟩ rfl) a w st⟩
     .show JN _ _ [(0,Pt c),(5,.eq z8.1),(6,.rep Tl r4.1),(7,I y7.2.2.2.1)] ([.sl z8.1 28 .val (List.set (oP z8.2 0 y7.2.2.2.2) (Int.toNat e.1) l),.sl l 3 Ti (x++[u]),.obj c 74 (.agg (.pair (.rep Tl e.2.1) (.pair (I e.2.2.1) (.eq (.int .u64 e.2.2.2)))))]++(oH z8.2 0 y7.2.2.2.2).eraseIdx (Int.toNat e.1));refine bG 1 rfl ?_;refine bK (D2 (pre:=[.obj c 74 (.agg (.pair (.rep Tl e.2.1) (.pair (I e.2.2.1) (.eq (.int .u64 e.2.2.2)))))]) (z:=z8) (i:=Int.toNat e.1) (EF s).2) ?_;refine bn ?_;exact wi ((z8.1,CP z8.2 (Int.toNat e.1) l),(e.2.1,e.2.2.1,e.2.2.2,List.set y7.2.2.2.2 (Int.toNat e.1) (x++[u]))) h (lH [.obj c 74 (.agg (.pair (.rep Tl e.2.1) (.pair (I e.2.2.1) (.eq (.int .u64 e.2.2.2)))))] (yI 28 (z8.1,CP z8.2 (Int.toNat e.1) l) (List.set y7.2.2.2.2 (Int.toNat e.1) (x++[u]))) [0] ⟨rfl,rfl,rfl,rfl,trivial⟩ rfl)
   .refine ae (mq ?_);obtain⟨mc,M,h⟩:=aa h;refine jb (be rfl M) ?_;refine aq (nl ?_);exact wi (y,(x9.1,x9.2.1,x9.2.2.1,mc,x9.2.2.2)) h (lH [.obj c 74 (.agg (.pair (.rep Tl x9.1) (.pair (I x9.2.1) (.eq (.int .u64 x9.2.2.1)))))] (yI 28 y x9.2.2.2) [0] ⟨rfl,rfl,rfl,rfl,trivial⟩ rfl)
  .refine xa ?_;exact wi (z8,(y7.1,y7.2.1,y7.2.2.1,y7.2.2.2.2)) h (lH [.obj c 74 (.agg (.pair (.rep Tl y7.1) (.pair (I y7.2.1) (.eq (.int .u64 y7.2.2.1)))))] (yI 28 z8 y7.2.2.2.2) [0] ⟨rfl,trivial⟩ rfl)
 .
  refine sr (mq ?_);refine aq (nt (aA ?_));refine bK (JM (pre:=[.obj c 74 (.agg (.pair (.rep Tl x5.1) (.pair (I x5.2.1) (.eq (.int .u64 x5.2.2.1)))))])) ?_;refine bK (gy [4,5,41] ⟨rfl,rfl,rfl,trivial⟩) ?_;cases h;exact aP () [_] 1 ⟨rfl,trivial⟩ rfl
def fO(k:Nat)(r2:Int×bP):Nat->((List Int)×Int×Int×(List (List (List Int)))×Int)->Option ((List (List (List Int)))×(List Int)×Int×Int)
 |0,_=>none
 |n+1,c=>
  if 0 < c.2.2.2.2 then(((((if 0 < (c.2.2.2.1.length:Int) then((fF k (c.1,c.2.1,c.2.2.1) 3).bind λl=>
  some (l.2.1,l.2.2.1,l.2.2.2,l.1)) else(some (c.1,c.2.1,c.2.2.1,false))):Option ((List Int)×Int×Int×Bool)).bind λe=>
  if e.2.2.2=true then((ck ((c.2.2.2.1.length:Int) - 1)).bind λx=>
  (aG c.2.2.2.1 x).bind λu=>
  (gW k u).bind λr=>
  (bS (bi (length c.2.2.2.1+length [r]))).bind λ_=>
  some (e.1,e.2.1,e.2.2.1,c.2.2.2.1++[r])) else((kM k (e.1,e.2.1,e.2.2.1) r2.1).bind λh=>
  (bS (bi (length c.2.2.2.1+length [h.1]))).bind λ_=>
  some (h.2.1,h.2.2.1,h.2.2.2,c.2.2.2.1++[h.1]))):Option ((List Int)×Int×Int×(List (List (List Int))))).bind λj=>
  (ck (c.2.2.2.2 - 1)).bind λs=>
  fO k r2 n (j.1,j.2.1,j.2.2.1,j.2.2.2,s)) else(some (c.2.2.2.1,c.1,c.2.1,c.2.2.1))
def kN(k:Nat)(a0:bP)(a1:Int)(a2:Int):Option (ab×bP):=
 (f8 k (a0.1,a0.2.1,a0.2.2) 1 a1).bind λr2=>
 (cg k (r2.2.1,r2.2.2.1,r2.2.2.2) 3).bind λr3=>
 (ix k (r3.2.1,r3.2.2.1,r3.2.2.2) [0,1,1,2,r3.1]).bind λr4=>
 (cg k (r4.2.1,r4.2.2.1,r4.2.2.2) 3).bind λr5=>
 (ix k (r5.2.1,r5.2.2.1,r5.2.2.2) [0,1,2,r5.1]).bind λr6=>
 (f8 k (r6.2.1,r6.2.2.1,r6.2.2.2) 1 3).bind λr7=>
 (ix k (r7.2.1,r7.2.2.1,r7.2.2.2) [1,2,r7.1]).bind λr8=>
 (((f8 k (r8.2.1,r8.2.2.1,r8.2.2.2) 1 a2).bind λe=>
 fO k r2 k (e.2.1,e.2.2.1,e.2.2.2,([]:(List (List (List Int)))),e.1)):Option ((List (List (List Int)))×(List Int)×Int×Int)).bind λc=>
 some ((r2.1,r4.1,r6.1,r8.1,c.1,[]),(c.2.1,c.2.2.1,c.2.2.2))
theorem vC(k:Nat)(a0:bP)(c:Nat)(a1:Int)(a2:Int)(r:ab×bP)(h:kN k a0 a1 a2=some r):
 cT Tryz.prog 65 [Pt c,I a1,I a2] [.obj c 74 (.agg (.pair (.rep Tl a0.1) (.pair (I a0.2.1) (.eq (.int .u64 a0.2.2)))))] (λ_:Unit=>(bC [.agg (.pair (I r.1.1) (.pair (I r.1.2.1) (.pair (I r.1.2.2.1) (.pair (I r.1.2.2.2.1) (.pair (.rep (.slice (.slice Tl)) r.1.2.2.2.2.1) (.eq (.slice none 0 0)))))))],[.obj c 74 (.agg (.pair (.rep Tl r.2.1) (.pair (I r.2.2.1) (.eq (.int .u64 r.2.2.2)))))])):=by
 unfold kN at h
 replace h:=aX h
 refine cT.of 67 Tryz.func65 rfl Tryz.ntmps65 rfl λS w0=>?_
 refine sr ?_
 refine aW rfl rfl rfl (bv rfl uQ zx) trivial λb1=>?_
 refine nt ?_
 refine sr ?_
 iterate 2 refine mq ?_
 obtain⟨r2,Wq,h⟩:=aa h
 have Wz:=jO k (a0.1,a0.2.1,a0.2.2) c 1 a1 r2 Wq
 refine fr 1 ?_
 refine kc (ax [.tmp 10,.const (.int .i64 (1)),.tmp 11] rfl rfl MP rfl Wz) ?_
 iterate 2 refine mq ?_
 obtain⟨r3,Wp,h⟩:=aa h
 have Wy:=cD k (r2.2.1,r2.2.2.1,r2.2.2.2) c 3 r3 Wp
 refine kb (ax [.tmp 14,.const (.int .i64 (3))] rfl rfl vJ rfl Wy) ?_
 refine cz rfl (aV (t:=Ti) [(.const (.int .i64 (0)),_),(.const (.int .i64 (1)),_),(.const (.int .i64 (1)),_),(.const (.int .i64 (2)),_),(.tmp 15,_)] [0,1,1,2,r3.1] rfl rfl cV (.cons rfl .int (.cons rfl .int (.cons rfl .int (.cons rfl .int (.cons rfl .int .nil))))) rfl rfl) ⟨rfl,rfl,rfl,rfl,rfl,trivial⟩ ?_
 obtain⟨r4,Wn,h⟩:=aa h
 have Wx:=mh k (r3.2.1,r3.2.2.1,r3.2.2.2) c [0,1,1,2,r3.1] r4 Wn
 refine kb (ax [.tmp 13,.tmp 16] rfl rfl P5 rfl Wx) ?_
 iterate 2 refine mq ?_
 obtain⟨r5,Wm,h⟩:=aa h
 have Wv:=cD k (r4.2.1,r4.2.2.1,r4.2.2.2) c 3 r5 Wm
 refine kb (ax [.tmp 19,.const (.int .i64 (3))] rfl rfl vJ rfl Wv) ?_
 refine cz rfl (aV (t:=Ti) [(.const (.int .i64 (0)),_),(.const (.int .i64 (1)),_),(.const (.int .i64 (2)),_),(.tmp 20,_)] [0,1,2,r5.1] rfl rfl cV (.cons rfl .int (.cons rfl .int (.cons rfl .int (.cons rfl .int .nil)))) rfl rfl) ⟨rfl,rfl,rfl,rfl,trivial⟩ ?_
 obtain⟨r6,Wj,h⟩:=aa h
 have Wu:=mh k (r5.2.1,r5.2.2.1,r5.2.2.2) c [0,1,2,r5.1] r6 Wj
 refine kb (ax [.tmp 18,.tmp 21] rfl rfl P5 rfl Wu) ?_
 iterate 2 refine mq ?_
 obtain⟨r7,Wi,h⟩:=aa h
 have Wt:=jO k (r6.2.1,r6.2.2.1,r6.2.2.2) c 1 3 r7 Wi
 refine kc (ax [.tmp 24,.const (.int .i64 (1)),.const (.int .i64 (3))] rfl rfl MP rfl Wt) ?_
 refine jc (aV (t:=Ti) [(.const (.int .i64 (1)),_),(.const (.int .i64 (2)),_),(.tmp 25,_)] [1,2,r7.1] rfl rfl cV (.cons rfl .int (.cons rfl .int (.cons rfl .int .nil))) rfl rfl) ?_
 obtain⟨r8,Wh,h⟩:=aa h
 have Ws:=mh k (r7.2.1,r7.2.2.1,r7.2.2.2) c [1,2,r7.1] r8 Wh
 refine kb (ax [.tmp 23,.tmp 26] rfl rfl P5 rfl Ws) ?_
 refine cz rfl (eC [(0,.tmp 12,_),(1,.tmp 17,_),(2,.tmp 22,_),(3,.tmp 27,_)] rfl Rj uQ OE (kG ⟨rfl,rfl,rfl,rfl,trivial⟩) rfl) ⟨rfl,rfl,rfl,rfl,trivial⟩ ?_
 refine aW rfl rfl rfl (bv rfl uQ zx) trivial λb9=>?_
 refine aO rfl rfl (aN rfl dF trivial rfl rfl) ⟨rfl,rfl,trivial⟩ ?_
 refine nt ?_
 refine aE (Z:=Value) (α:=(List (List (List Int)))×(List Int)×Int×Int) (λJ y=>[(6,Pt b1),(7,Pt b9)]) (λJ y=>[.obj b1 25 (.agg (.pair (I 0) (.pair (I 0) (.pair (I 0) (.pair (I 0) (.pair (.eq (.slice none 0 0)) (.eq (.slice none 0 0)))))))),.obj b9 25 (.agg (.pair (I r2.1) (.pair (I r4.1) (.pair (I r6.1) (.pair (I r8.1) (.pair (.eq J) (.eq (.slice none 0 0)))))))),.sl J 36 (.slice Tl) y.1,.obj c 74 (.agg (.pair (.rep Tl y.2.1) (.pair (I y.2.2.1) (.eq (.int .u64 y.2.2.2)))))]) h (λK h=>?_) (λJ y h=>?_)
 .
  refine sr ?_;iterate 2 refine mq ?_
  obtain⟨F,zz,h⟩:=aa h;refine fr 1 ?_;refine kc (ax [.tmp 29,.const (.int .i64 (1)),.tmp 30] rfl rfl MP rfl (jO k (r8.2.1,r8.2.2.1,r8.2.2.2) c 1 a2 F zz)) ?_;refine aq (nt (ah ?_));refine hP (SE.nil 36 (.slice Tl)) ?_;refine aC (λu e=>[(0,Pt c),(6,Pt b1),(7,Pt b9),(8,I e.2.2.2.2)]) (λu e=>[.obj c 74 (.agg (.pair (.rep Tl e.1) (.pair (I e.2.1) (.eq (.int .u64 e.2.2.1))))),.obj b1 25 (.agg (.pair (I 0) (.pair (I 0) (.pair (I 0) (.pair (I 0) (.pair (.eq (.slice none 0 0)) (.eq (.slice none 0 0)))))))),.obj b9 25 (.agg (.pair (I r2.1) (.pair (I r4.1) (.pair (I r6.1) (.pair (I r8.1) (.pair (.eq u) (.eq (.slice none 0 0)))))))),.sl u 36 (.slice Tl) e.2.2.2.1]) (fO k r2) k (.slice none 0 0) (F.2.1,F.2.2.1,F.2.2.2,([]:(List (List (List Int)))),F.1) (λ_=>rfl) h (SE.fin [1,3,2,0] ⟨rfl,rfl,rfl,rfl,trivial⟩ rfl) (λn u e h=>?_);unfold fO at h;refine aj (sr (mq ?_));refine jb (jm rfl) ?_;refine nt (ci h (λh=>?_) (λh=>?_))
  .refine sk (aE (Z:=Value) (α:=(List Int)×Int×Int×(List (List (List Int)))) (λD l=>[(0,Pt c),(6,Pt b1),(7,Pt b9),(8,I e.2.2.2.2)]) (λD l=>[.obj c 74 (.agg (.pair (.rep Tl l.1) (.pair (I l.2.1) (.eq (.int .u64 l.2.2.1))))),.obj b1 25 (.agg (.pair (I 0) (.pair (I 0) (.pair (I 0) (.pair (I 0) (.pair (.eq (.slice none 0 0)) (.eq (.slice none 0 0)))))))),.obj b9 25 (.agg (.pair (I r2.1) (.pair (I r4.1) (.pair (I r6.1) (.pair (I r8.1) (.pair (.eq D) (.eq (.slice none 0 0)))))))),.sl D 36 (.slice Tl) l.2.2.2]) h (λK h=>?_) (λD l h=>?_))
   .refine ah (aj (sr (fl cj ?_)));refine fr 2 ?_;refine lo fB ?_;refine fr 3 ?_;refine ka (nB rfl rfl pJ) ?_;refine aq (nt ?_);refine aE (Z:=Unit) (α:=(List Int)×Int×Int×Bool) (λQ j=>[(0,Pt c),(6,Pt b1),(7,Pt b9),(8,I e.2.2.2.2),(9,I (e.2.2.2.1.length:Int)),(44,.eq (.bool j.2.2.2))]) (λQ j=>[.obj c 74 (.agg (.pair (.rep Tl j.1) (.pair (I j.2.1) (.eq (.int .u64 j.2.2.1))))),.obj b1 25 (.agg (.pair (I 0) (.pair (I 0) (.pair (I 0) (.pair (I 0) (.pair (.eq (.slice none 0 0)) (.eq (.slice none 0 0)))))))),.obj b9 25 (.agg (.pair (I r2.1) (.pair (I r4.1) (.pair (I r6.1) (.pair (I r8.1) (.pair (.eq u) (.eq (.slice none 0 0)))))))),.sl u 36 (.slice Tl) e.2.2.2.1]) h (λK h=>?_) (λQ j h=>?_)
    .refine ae (mq ?_);refine jb (jm rfl) ?_;refine mq ?_;refine cf (s:=41) rfl (λhb=>?_) (λhb=>?_)
     .replace h:=ee (vM hb) h;refine gm ?_;obtain⟨E,qt,h⟩:=aa h;refine fr 2 ?_;refine eP rfl rfl rfl rfl rfl rfl (ax [.tmp 42,.const (.int .i64 (3))] rfl rfl P9 rfl (j9 k (e.1,e.2.1,e.2.2.1) c 3 E qt)) ⟨rfl,rfl,trivial⟩ ?_;refine pt (nl ?_);exact jz ((),(E.2.1,E.2.2.1,E.2.2.2,E.1)) h [0,3,2,1]
     .replace h:=cK (vO hb) h;iterate 2 refine gn ?_
      refine pf (nl ?_);exact jz ((),(e.1,e.2.1,e.2.2.1,false)) h [2,3,1,0]
    .refine cv h (λh=>?_) (λh=>?_)
     .refine aj (bz ?_);refine da (au rfl cj) ?_;refine ea 2 (an rfl fB ju rfl) ?_;refine da (au rfl cj) ?_;refine ea 2 (an rfl fB ju rfl) ?_;refine dm ?_;obtain⟨Wc,X,h⟩:=aa h;refine db (eo rfl X) ?_;obtain⟨Wb,M,h⟩:=aa h;refine eb 3 (cI (t:=(.slice Tl)) rfl pJ kE M) ?_;refine ea 3 (gU (i:=Int.toNat Wc) (off:=0) rfl kE (λ_=>rfl) rfl (dJ M).2.2 rfl) ?_;obtain⟨O,mw,h⟩:=aa h;refine da (zD (ax [.tmp 52] rfl rfl SN rfl (nG k Wb O mw))) ?_;refine da (aV (t:=(.slice Tl)) [(.tmp 53,_)] [O] rfl rfl yt (.cons rfl .rep .nil) rfl rfl) ?_;refine df cQ ?_;obtain⟨WB,gw,h⟩:=aa h;refine fr 3 ?_;refine cR rfl rfl rfl (bp rfl rfl yt (ap gw)) ⟨rfl,rfl,trivial⟩ λWg=>?_;refine fl cj ?_;refine ot λo25=>?_;refine fr 3 ?_;refine aO rfl rfl (aN rfl fB o25 rfl rfl) ⟨rfl,rfl,trivial⟩ ?_;refine nt (fA (bJ (cZ (av ?_))));exact jz (Wg,(j.1,j.2.1,j.2.2.1,e.2.2.2.1++[O])) h [2,3,0,1]
     .refine sk (bz ?_);refine da (au rfl cj) ?_;refine ea 2 (an rfl fB ju rfl) ?_;refine dm ?_;refine da (au rfl eU) ?_;refine ea 2 (an rfl bQ ju rfl) ?_;obtain⟨x,mc,h⟩:=aa h;refine Fp 0 rfl rfl rfl rfl (ax [.tmp 59,.tmp 61] rfl rfl To rfl (vA k (j.1,j.2.1,j.2.2.1) c r2.1 x mc)) ⟨rfl,rfl,trivial⟩ ?_;refine da (aV (t:=(.slice Tl)) [(.tmp 62,_)] [x.1] rfl rfl yt (.cons rfl .rep .nil) rfl rfl) ?_;refine Fq (Δ':=[.obj b1 25 (.agg (.pair (I 0) (.pair (I 0) (.pair (I 0) (.pair (I 0) (.pair (.eq (.slice none 0 0)) (.eq (.slice none 0 0)))))))),.obj b9 25 (.agg (.pair (I r2.1) (.pair (I r4.1) (.pair (I r6.1) (.pair (I r8.1) (.pair (.eq u) (.eq (.slice none 0 0)))))))),.sl u 36 (.slice Tl) e.2.2.2.1,.obj c 74 (.agg (.pair (.rep Tl x.2.1) (.pair (I x.2.2.1) (.eq (.int .u64 x.2.2.2)))))]) (by kernel_rfl) cQ (by kernel_rfl) ?_;obtain⟨WA,Y,h⟩:=aa h;refine fr 2 ?_;refine cR rfl rfl rfl (bp rfl rfl yt (ap Y)) ⟨rfl,rfl,trivial⟩ λWe=>?_;refine fl cj ?_;refine ot λo29=>?_;refine fr 2 ?_;refine aO rfl rfl (aN rfl fB o29 rfl rfl) ⟨rfl,rfl,trivial⟩ ?_;refine aF (bn ?_);exact jz (We,(x.2.1,x.2.2.1,x.2.2.2,e.2.2.2.1++[x.1])) h [3,2,0,1]
   .refine ae (mq ?_);obtain⟨Wa,U,h⟩:=aa h;refine jb (eo rfl U) ?_;refine aq (nl ?_);exact jz (D,(l.1,l.2.1,l.2.2.1,l.2.2.2,Wa)) h [0,1,2,3]
  .refine xa ?_;exact jz (u,(e.2.2.2.1,e.1,e.2.1,e.2.2.1)) h [1,2,3,0]
 .
  refine sr (fr 1 ?_);refine fr 2 ?_;refine eD (jj (off:=4) [] trivial rfl rfl) ?_;refine lo dF ?_;refine fr 1 ?_;refine aO rfl rfl (aN rfl dF trivial rfl rfl) ⟨rfl,rfl,trivial⟩ ?_;refine nt (aA (bK (SE.fin (Γ':=[(6,_)]) [2,0,1] ⟨rfl,trivial⟩ rfl) ?_));cases h;exact aP () [.agg (.pair (I r2.1) (.pair (I r4.1) (.pair (I r6.1) (.pair (I r8.1) (.pair (.rep (.slice (.slice Tl)) y.1) (.eq (.slice none 0 0)))))))] 1 ⟨⟨_,_,_,_,_,rfl,(.tail _ (.head _)),dF,(oL),rfl⟩,trivial⟩ rfl
def eL(k:Nat)(r2:ab×bP):Nat->((List Int)×Int×Int×(List aQ)×Int)->Option ((List aQ)×(List Int)×Int×Int)
 |0,_=>none
 |n+1,y7=>
  if 0 < y7.2.2.2.2 then((iT k (y7.1,y7.2.1,y7.2.2.1) (r2.1.1,r2.1.2.1,r2.1.2.2.1,r2.1.2.2.2.1,r2.1.2.2.2.2.1,())).bind λr9=>
  (bS (bi (length y7.2.2.2.1+length [r9.1]))).bind λ_=>
  (ck (y7.2.2.2.2 - 1)).bind λc=>
  eL k r2 n (r9.2.1,r9.2.2.1,r9.2.2.2,y7.2.2.2.1++[r9.1],c)) else(some (y7.2.2.2.1,y7.1,y7.2.1,y7.2.2.1))
def iS(k:Nat)(a0:bP)(a1:Int)(a2:Int):Option (ab×bP):=
 (kN k (a0.1,a0.2.1,a0.2.2) a1 a2).bind λr2=>
 (((cg k (r2.2.1,r2.2.2.1,r2.2.2.2) 4).bind λr6=>
 eL k r2 k (r6.2.1,r6.2.2.1,r6.2.2.2,([]:(List aQ)),r6.1)):Option ((List aQ)×(List Int)×Int×Int)).bind λx4=>
 some ((r2.1.1,r2.1.2.1,r2.1.2.2.1,r2.1.2.2.2.1,r2.1.2.2.2.2.1,x4.1),(x4.2.1,x4.2.2.1,x4.2.2.2))
theorem tz(k:Nat)(a0:bP)(c:Nat)(a1:Int)(a2:Int)(r:ab×bP)(h:iS k a0 a1 a2=some r):
 cT Tryz.prog 33 [Pt c,I a1,I a2] [.obj c 74 (.agg (.pair (.rep Tl a0.1) (.pair (I a0.2.1) (.eq (.int .u64 a0.2.2)))))] (λ_:Unit=>(bC [.rep am r.1],[.obj c 74 (.agg (.pair (.rep Tl r.2.1) (.pair (I r.2.2.1) (.eq (.int .u64 r.2.2.2)))))])):=by
 unfold iS at h
 replace h:=aX h
 refine cT.of 28 Tryz.func33 rfl Tryz.ntmps33 rfl λS w0=>?_
 refine sr ?_
 refine aW rfl rfl rfl (bv rfl uQ zx) trivial λb1=>?_
 refine nt ?_
 refine sr ?_
 iterate 3 refine mq ?_
 obtain⟨r2,D,h⟩:=aa h
 have E:=vC k (a0.1,a0.2.1,a0.2.2) c a1 a2 r2 D
 refine fr 1 ?_
 refine kc (ax [.tmp 9,.tmp 10,.tmp 11] rfl rfl U6 rfl E) ?_
 refine aW rfl rfl rfl (bv rfl uQ zx) trivial λb3=>?_
 refine aO rfl rfl (aN rfl dF trivial rfl rfl) ⟨rfl,rfl,trivial⟩ ?_
 refine nt ?_
 refine aE (Z:=Value) (α:=(List aQ)×(List Int)×Int×Int) (λz5 x4=>[(6,Pt b1),(7,Pt b3)]) (λz5 x4=>[.obj b1 25 (.agg (.pair (I 0) (.pair (I 0) (.pair (I 0) (.pair (I 0) (.pair (.eq (.slice none 0 0)) (.eq (.slice none 0 0)))))))),.obj b3 25 (.agg (.pair (I r2.1.1) (.pair (I r2.1.2.1) (.pair (I r2.1.2.2.1) (.pair (I r2.1.2.2.2.1) (.pair (.rep (.slice (.slice Tl)) r2.1.2.2.2.2.1) (.eq z5))))))),.sl z5 27 aJ x4.1,.obj c 74 (.agg (.pair (.rep Tl x4.2.1) (.pair (I x4.2.2.1) (.eq (.int .u64 x4.2.2.2)))))]) h (λK h=>?_) (λz5 x4 h=>?_)
 .
  refine sr (mq ?_);obtain⟨r6,y,h⟩:=aa h;refine fr 1 ?_;refine kb (ax [.tmp 13,.const (.int .i64 (4))] rfl rfl vJ rfl (cD k (r2.2.1,r2.2.2.1,r2.2.2.2) c 4 r6 y)) ?_;refine aq (nt (ah ?_));refine hP (SE.nil 27 aJ) ?_;refine aC (λz8 y7=>[(0,Pt c),(6,Pt b1),(7,Pt b3),(8,I y7.2.2.2.2)]) (λz8 y7=>[.obj c 74 (.agg (.pair (.rep Tl y7.1) (.pair (I y7.2.1) (.eq (.int .u64 y7.2.2.1))))),.obj b1 25 (.agg (.pair (I 0) (.pair (I 0) (.pair (I 0) (.pair (I 0) (.pair (.eq (.slice none 0 0)) (.eq (.slice none 0 0)))))))),.obj b3 25 (.agg (.pair (I r2.1.1) (.pair (I r2.1.2.1) (.pair (I r2.1.2.2.1) (.pair (I r2.1.2.2.2.1) (.pair (.rep (.slice (.slice Tl)) r2.1.2.2.2.2.1) (.eq z8))))))),.sl z8 27 aJ y7.2.2.2.1]) (eL k r2) k (.slice none 0 0) (r6.2.1,r6.2.2.1,r6.2.2.2,([]:(List aQ)),r6.1) (λ_=>rfl) h (SE.fin [1,3,2,0] ⟨rfl,rfl,rfl,rfl,trivial⟩ rfl) (λn z8 y7 h=>?_);unfold eL at h;refine aj (sr (mq ?_));refine jb (jm rfl) ?_;refine nt (ci h (λh=>?_) (λh=>?_))
  .refine sk (aj (ah (bz ?_)));refine da (au rfl fR) ?_;refine ea 2 (an rfl nm ju rfl) ?_;refine dm ?_;refine ea 2 (an rfl dF (oL) rfl) ?_;obtain⟨r9,u,h⟩:=aa h;refine Fp 0 rfl rfl rfl rfl (bR (N:=[(.tmp 21,Pt c),(.tmp 22,.agg (.pair (I r2.1.1) (.pair (I r2.1.2.1) (.pair (I r2.1.2.2.1) (.pair (I r2.1.2.2.2.1) (.pair (.rep (.slice (.slice Tl)) r2.1.2.2.2.2.1) (.eq z8)))))))]) (ax [.tmp 21,.tmp 22] rfl rfl U2 rfl (tA k (y7.1,y7.2.1,y7.2.2.1) c (r2.1.1,r2.1.2.1,r2.1.2.2.1,r2.1.2.2.2.1,r2.1.2.2.2.2.1,()) r9 u)) λ_ _ _ hn=>⟨hn.1,(Nx (t:=(.pair Ti (.pair Ti (.pair Ti (.pair Ti (.pair (.slice (.slice Tl)) .ign)))))) (x:=(r2.1.1,r2.1.2.1,r2.1.2.2.1,r2.1.2.2.2.1,r2.1.2.2.2.2.1,())) (pQ (kp .int) (pQ (kp .int) (pQ (kp .int) (pQ (kp .int) (pQ (kp .rep) N5))))) hn.2.1),trivial⟩) ⟨rfl,rfl,trivial⟩ ?_;refine da (aV (t:=aJ) [(.tmp 23,_)] [r9.1] rfl rfl Ai (.cons rfl .rep .nil) rfl rfl) ?_;refine Fq (Δ':=[.obj b1 25 (.agg (.pair (I 0) (.pair (I 0) (.pair (I 0) (.pair (I 0) (.pair (.eq (.slice none 0 0)) (.eq (.slice none 0 0)))))))),.obj b3 25 (.agg (.pair (I r2.1.1) (.pair (I r2.1.2.1) (.pair (I r2.1.2.2.1) (.pair (I r2.1.2.2.2.1) (.pair (.rep (.slice (.slice Tl)) r2.1.2.2.2.2.1) (.eq z8))))))),.sl z8 27 aJ y7.2.2.2.1,.obj c 74 (.agg (.pair (.rep Tl r9.2.1) (.pair (I r9.2.2.1) (.eq (.int .u64 r9.2.2.2)))))]) (by kernel_rfl) cQ (by kernel_rfl) ?_;obtain⟨F,j,h⟩:=aa h;refine fr 2 ?_;refine cR rfl rfl rfl (bp rfl rfl Ai (ap j)) ⟨rfl,rfl,trivial⟩ λs=>?_;refine fl fR ?_;refine ot λo12=>?_;refine fr 2 ?_;refine aO rfl rfl (aN rfl nm o12 rfl rfl) ⟨rfl,rfl,trivial⟩ ?_;refine aF (aI (tn (ae (mq ?_))));obtain⟨l,e,h⟩:=aa h;refine jb (eo rfl e) ?_;refine aq (nl ?_);exact jz (s,(r9.2.1,r9.2.2.1,r9.2.2.2,y7.2.2.2.1++[r9.1],l)) h [3,2,0,1]
  .refine xa ?_;exact jz (z8,(y7.2.2.2.1,y7.1,y7.2.1,y7.2.2.1)) h [1,2,3,0]
 .
  refine sr (fr 1 ?_);refine fr 2 ?_;refine eD (jj (off:=5) [] trivial rfl rfl) ?_;refine lo dF ?_;refine fr 1 ?_;refine aO rfl rfl (aN rfl dF trivial rfl rfl) ⟨rfl,rfl,trivial⟩ ?_;refine nt (aA (bK (iF (a:=.agg (.pair (I r2.1.1) (.pair (I r2.1.2.1) (.pair (I r2.1.2.2.1) (.pair (I r2.1.2.2.2.1) (.pair (.rep (.slice (.slice Tl)) r2.1.2.2.2.2.1) (Rs aJ x4.1))))))) (a':=.rep am (r2.1.1,r2.1.2.1,r2.1.2.2.1,r2.1.2.2.2.1,r2.1.2.2.2.2.1,x4.1)) (kp (.agg (.pair .int (.pair .int (.pair .int (.pair .int (.pair .rep .rep)))))))) ?_));refine bK (SE.fin (Γ':=[(6,_)]) [2,0,1] ⟨rfl,trivial⟩ rfl) ?_;cases h;exact aP () [.rep am (r2.1.1,r2.1.2.1,r2.1.2.2.1,r2.1.2.2.2.1,r2.1.2.2.2.2.1,x4.1)] 1 ⟨⟨_,_,_,_,_,rfl,(.tail _ (.head _)),dF,(oL),rfl⟩,trivial⟩ rfl
def jp(k:Nat)(a0:ab)(a1:aQ)(a2:bP):Option ((List ab)×bP):=
 (iS k (a2.1,a2.2.1,a2.2.2) 4 4).bind λr3=>
 (gV k r3.1).bind λr5=>
 (bS (bi (length r5.2.2.2.2.2+length [a1]))).bind λ_=>
 some ([a0,r3.1,(r5.1,r5.2.1,r5.2.2.1,r5.2.2.2.1,r5.2.2.2.2.1,r5.2.2.2.2.2++[a1])],(r3.2.1,r3.2.2.1,r3.2.2.2))
theorem vz(k:Nat)(a0:ab)(a1:aQ)(a2:bP)(c:Nat)(r:(List ab)×bP)(h:jp k a0 a1 a2=some r):
 cT Tryz.prog 13 [.rep am a0,.rep aJ a1,Pt c] [.obj c 74 (.agg (.pair (.rep Tl a2.1) (.pair (I a2.2.1) (.eq (.int .u64 a2.2.2)))))] (λ_:Unit=>(bC [Rs am r.1],[.obj c 74 (.agg (.pair (.rep Tl r.2.1) (.pair (I r.2.2.1) (.eq (.int .u64 r.2.2.2)))))])):=by
 unfold jp at h
 replace h:=aX h
 refine cT.of 23 Tryz.func13 rfl Tryz.ntmps13 rfl λS w0=>?_
 refine sr ?_
 refine bx λb1=>?_
 refine bx λb2=>?_
 refine cq ?_
 refine nt ?_
 refine sr ?_
 refine mq ?_
 obtain⟨r3,l,h⟩:=aa h
 have s:=tz k (a2.1,a2.2.1,a2.2.2) c 4 4 r3 l
 refine fr 2 ?_
 refine kc (ax [.tmp 9,.const (.int .i64 (4)),.const (.int .i64 (4))] rfl rfl Vk rfl s) ?_
 refine aW rfl rfl rfl (bv rfl uQ zx) trivial λb4=>?_
 refine aO rfl rfl (aN rfl dF rfl rfl rfl) ⟨rfl,rfl,trivial⟩ ?_
 refine nt ?_
 refine sr ?_
 refine lo dF ?_
 obtain⟨r5,j,h⟩:=aa h
 have n:=nF k r3.1 r5 j
 refine aW rfl rfl rfl (ax [.tmp 11] rfl rfl SY rfl n) ⟨rfl,trivial⟩ λv6=>?_
 refine aW rfl rfl rfl (bv rfl uQ zx) trivial λb7=>?_
 refine aO rfl rfl (aN rfl dF trivial rfl rfl) ⟨rfl,rfl,trivial⟩ ?_
 refine nt ?_
 refine sr ?_
 refine fl fR ?_
 refine lo nm ?_
 refine fr 4 ?_
 refine lo mY ?_
 refine ja (aV (t:=aJ) [(.tmp 15,_)] [a1] rfl rfl Ai (.cons rfl .rep .nil) rfl rfl) ?_
 obtain⟨u8,e,h⟩:=aa h
 refine fr 2 ?_
 refine cR rfl rfl rfl (bp rfl rfl Ai (ap e)) ⟨rfl,rfl,trivial⟩ λv9=>?_
 refine fl fR ?_
 refine ot λo10=>?_
 refine fr 2 ?_
 refine aO rfl rfl (aN rfl nm o10 rfl rfl) ⟨rfl,rfl,trivial⟩ ?_
 refine nt ?_
 refine sr ?_
 refine fr 5 ?_
 refine lo dF ?_
 refine fr 4 ?_
 refine lo dF ?_
 refine fr 2 ?_
 refine fr 3 ?_
 refine eD (jj (off:=5) [17] ⟨rfl,trivial⟩ rfl rfl) ?_
 refine lo dF ?_
 refine jc (aV (t:=am) [(.tmp 19,_),(.tmp 20,_),(.tmp 21,_)] [a0,r3.1,(r5.1,r5.2.1,r5.2.2.1,r5.2.2.2.1,r5.2.2.2.2.1,r5.2.2.2.2.2++[a1])] rfl rfl Um (.cons rfl .rep (.cons rfl .rep (.cons trivial (.agg (.pair .int (.pair .int (.pair .int (.pair .int (.pair .rep .rep)))))) .nil))) rfl rfl) ?_
 refine aq ?_
 refine nt ?_
 refine aA ?_
 refine bK (SE.fin (Γ':=[(6,_)]) [4,0,1,2,3] ⟨rfl,trivial⟩ rfl) ?_
 cases h
 exact aP () [_] 1 ⟨rfl,trivial⟩ rfl
def dU(k:Nat)(a2:Int)(r7:(List ab)×bP)(r8:Int×bP):Nat->Int->Option (Except Bool Unit)
 |0,_=>none
 |n+1,e=>
  if e < (r7.1.length:Int) then((aG r7.1 e).bind λD=>
  (gV k D).bind λc=>
  (aG [a2,r8.1,a2] e).bind λy=>
  (nD k (c.1,c.2.1,c.2.2.1,c.2.2.2.1,c.2.2.2.2.1,c.2.2.2.2.2) y).bind λj=>
  (aG r7.1 e).bind λx=>
  (aG [a2,r8.1,a2] e).bind λu=>
  (o8 k x u).bind λh=>
  ((if¬(j.1=h.1) then(some true) else(if¬(j.2.1=h.2.1) then(some true) else(if¬(j.2.2=h.2.2) then(some true) else((aG r7.1 e).bind λr=>
  (iQ k (c.1,c.2.1,c.2.2.1,c.2.2.2.1,c.2.2.2.2.1,c.2.2.2.2.2) r).bind λE=>
  some (!E))))):Option (Bool)).bind λs=>
  if s=true then(some (.error false)) else((ck (e+1)).bind λl=>
  dU k a2 r7 r8 n l)) else(some (.ok ()))
def kC(k:Nat)(a0:ab)(a1:aQ)(a2:Int)(a3:(List Int)):Option Bool:=
 (pw k a0).bind λr3=>
 if r3=true then((px k).bind λr4=>
 some r4) else((mO k a3).bind λr5=>
 (jp k a0 a1 (r5.1,r5.2.1,r5.2.2)).bind λr7=>
 (cg k (r7.2.1,r7.2.2.1,r7.2.2.2) 3).bind λr8=>
 bE (α:=Unit) (dU k a2 r7 r8 k 0) (some) λ_=>
 (px k).bind λc=>
 some c)
theorem tq(k:Nat)(a0:ab)(a1:aQ)(a2:Int)(a3:(List Int))(r:Bool)(h:kC k a0 a1 a2 a3=some r):
 co (eu Tryz.prog) 4 [.rep am a0,.rep aJ a1,I a2,.rep Tl a3] [] (λ_:Unit=>(bC [.eq (.bool r)],[])):=by
 unfold kC at h
 replace h:=aX h
 refine co.of 91 Tryz.func4 rfl Tryz.ntmps4 rfl λS w0=>?_
 refine sr ?_
 refine bx λb1=>?_
 refine bx λb2=>?_
 refine cq ?_
 refine nt ?_
 refine aj ?_
 refine sr ?_
 refine fr 1 ?_
 refine lo dF ?_
 obtain⟨r3,Wp,h⟩:=aa h
 have Wq:=A7 k a0 r3 Wp
 refine ja (ax [.tmp 20] rfl rfl Vu rfl Wq) ?_
 refine nt ?_
 refine cv h (λh=>?_) (λh=>?_)
 .
  refine sr ?_;obtain⟨r4,Wn,h⟩:=aa h;refine cz rfl (bo [] rfl rfl Ta rfl (t9 k r4 Wn)) trivial ?_;refine aq (nt (rx ?_));cases h;exact ra
 .
  refine sk (sr (mq ?_));obtain⟨r5,Wm,h⟩:=aa h;refine aW rfl rfl rfl (ax [.tmp 23] rfl rfl Vt rfl (vB k a3 r5 Wm)) ⟨rfl,trivial⟩ λb6=>?_;refine aq (nt (sr ?_));refine fr 1 ?_;refine lo dF ?_;refine fr 2 ?_;refine lo mY ?_;refine mq ?_;obtain⟨r7,Wj,h⟩:=aa h;refine fr 2 ?_;refine kc (ax [.tmp 25,.tmp 26,.tmp 27] rfl rfl Vs rfl (vz k a0 a1 (r5.1,r5.2.1,r5.2.2) b6 r7 Wj)) ?_;refine aq (nt (sr ?_));iterate 2 refine mq ?_
  obtain⟨r8,Wi,h⟩:=aa h;refine kb (ax [.tmp 30,.const (.int .i64 (3))] rfl rfl vJ rfl (cD k (r7.2.1,r7.2.2.1,r7.2.2.2) b6 3 r8 Wi)) ?_;refine mq ?_;refine jc (aV (t:=Ti) [(.tmp 29,_),(.tmp 31,_),(.tmp 32,_)] [a2,r8.1,a2] rfl rfl cV (.cons rfl .int (.cons rfl .int (.cons rfl .int .nil))) rfl rfl) ?_;refine aq (nt ?_);refine cS (Z:=Unit) (α:=Unit) (λy x9=>[]) (λy x9=>[]) (λe=>e=r) h (λe h=>Option.some.inj h) (λK hR h=>?_) (λy x9 h=>?_)
  .refine sr (cq (nt (ah ?_)));refine aC (λu j=>[(10,Rs am r7.1),(11,.rep Tl [a2,r8.1,a2]),(12,I j)]) (λu j=>[]) (dU k a2 r7 r8) k () 0 (λ_=>rfl) h (SE.fin [] ⟨rfl,rfl,rfl,trivial⟩ rfl) (λn u j h=>?_);unfold dU at h;refine aj (sr ?_);iterate 2 refine mq ?_
   refine ol Uc ?_;refine jb (bj rfl) ?_;refine nt (ci h (λh=>?_) (λh=>?_))
   .refine sk (aj (ah (sr ?_)));iterate 2 refine mq ?_
    obtain⟨Wc,X,h⟩:=aa h;refine jb (aD (t:=am) rfl Uc dF X) ?_;refine ja (ao (t:=am) rfl dF rfl) ?_;obtain⟨c,qt,h⟩:=aa h;refine aW rfl rfl rfl (ax [.tmp 43] rfl rfl SY rfl (nF k Wc c qt)) ⟨rfl,trivial⟩ λWs=>?_;refine aW rfl rfl rfl (bv rfl uQ zx) trivial λWt=>?_;refine aO rfl rfl (aN rfl dF trivial rfl rfl) ⟨rfl,rfl,trivial⟩ ?_;refine nt (aj (dI 1 rfl ?_));refine hP (jj (off:=5) [] trivial rfl rfl) ?_;refine bz ?_;refine ea 0 (an rfl dF (oL) rfl) ?_;refine dm ?_;refine dm ?_;obtain⟨E,U,h⟩:=aa h;refine db (aD (t:=Ti) rfl gA bQ U) ?_;refine da (ao (t:=Ti) rfl bQ rfl) ?_;obtain⟨Wh,mw,h⟩:=aa h;refine db (bR (N:=[(.tmp 46,.agg (.pair (I c.1) (.pair (I c.2.1) (.pair (I c.2.2.1) (.pair (I c.2.2.2.1) (.pair (.rep (.slice (.slice Tl)) c.2.2.2.2.1) (Rs aJ c.2.2.2.2.2))))))),(.tmp 50,I E)]) (bo [.tmp 46,.tmp 50] rfl rfl SQ rfl (t6 k (c.1,c.2.1,c.2.2.1,c.2.2.2.1,c.2.2.2.2.1,c.2.2.2.2.2) E Wh mw)) λ_ _ _ hn=>⟨(aM (t:=am) (x:=(c.1,c.2.1,c.2.2.1,c.2.2.2.1,c.2.2.2.2.1,c.2.2.2.2.2)) (.agg (.pair .int (.pair .int (.pair .int (.pair .int (.pair .rep .rep)))))) trivial rfl hn.1),hn.2.1,trivial⟩) ?_;refine dm ?_;refine da (eJ rfl rfl) ?_;refine da (eJ rfl rfl) ?_;refine da (eJ rfl rfl) ?_;refine da (jG rfl) ?_;refine da (jG rfl) ?_;refine df cQ ?_;refine aq (nt (aj ?_));refine bz ?_;refine dm ?_;refine dm ?_;obtain⟨Wb,Q,h⟩:=aa h;refine db (aD (t:=am) rfl Uc dF Q) ?_;refine da (ao (t:=am) rfl dF rfl) ?_;refine dm ?_;refine dm ?_;obtain⟨Wa,O,h⟩:=aa h;refine db (aD (t:=Ti) rfl gA bQ O) ?_;refine da (ao (t:=Ti) rfl bQ rfl) ?_;obtain⟨Wg,mc,h⟩:=aa h;refine db (ax [.tmp 59,.tmp 63] rfl rfl Vm rfl (As k Wb Wa Wg mc)) ?_;refine dm ?_;refine da (eJ rfl rfl) ?_;refine da (eJ rfl rfl) ?_;refine da (eJ rfl rfl) ?_;refine da (jG rfl) ?_;refine da (jG rfl) ?_;refine df cQ ?_;refine aq (nt ?_);refine aE (Z:=Unit) (α:=Bool) (λs l=>[(10,Rs am r7.1),(11,.rep Tl [a2,r8.1,a2]),(12,I j),(89,.eq (.bool l))]) (λs l=>[]) h (λK h=>?_) (λs l h=>?_)
    .refine bz ?_;refine dm ?_;refine dm ?_;refine db (d5 rfl) ?_;refine mX rfl rfl rfl (aY rfl) ⟨rfl,trivial⟩ (λhb=>?_) (λhb=>?_)
     .replace h:=ee (LL hb) h;iterate 3 refine dg ?_
      refine db (pg rfl) ?_;refine dm ?_;iterate 3 refine dg ?_
      refine db (pg rfl) ?_;refine dm ?_;iterate 5 refine dg ?_
      refine df cQ ?_;iterate 2 refine gn ?_
      refine pt (nl ?_);exact jz ((),true) h []
     .replace h:=cK (yP hb) h;refine bB rfl rfl rfl rfl rfl (aY rfl) ⟨rfl,rfl,trivial⟩ ?_;refine bB rfl rfl rfl rfl rfl (aY rfl) ⟨rfl,rfl,trivial⟩ ?_;refine bB rfl rfl rfl rfl rfl (d5 rfl) ⟨rfl,rfl,rfl,trivial⟩ ?_;refine db (rU rfl) ?_;refine mX rfl rfl rfl (aY rfl) ⟨rfl,trivial⟩ (λhb=>?_) (λhb=>?_)
      .replace h:=ee (LL hb) h;iterate 3 refine dg ?_
       refine db (pg rfl) ?_;refine dm ?_;iterate 5 refine dg ?_
       refine df cQ ?_;iterate 2 refine gn ?_
       refine pt (nl ?_);exact jz ((),true) h []
      .replace h:=cK (yP hb) h;refine bB rfl rfl rfl rfl rfl (aY rfl) ⟨rfl,rfl,trivial⟩ ?_;refine bB rfl rfl rfl rfl rfl (aY rfl) ⟨rfl,rfl,trivial⟩ ?_;refine bB rfl rfl rfl rfl rfl (d5 rfl) ⟨rfl,rfl,rfl,trivial⟩ ?_;refine db (rU rfl) ?_;refine mX rfl rfl rfl (aY rfl) ⟨rfl,trivial⟩ (λhb=>?_) (λhb=>?_)
       .replace h:=ee (LL hb) h;iterate 5 refine dg ?_
        refine df cQ ?_;iterate 2 refine gn ?_
        refine pt (nl ?_);exact jz ((),true) h []
       .replace h:=cK (yP hb) h;refine ia 0 rfl rfl rfl rfl rfl rfl (an rfl dF (oL) rfl) ⟨rfl,rfl,trivial⟩ ?_;refine bB rfl rfl rfl rfl rfl (aY rfl) ⟨rfl,rfl,trivial⟩ ?_;refine bB rfl rfl rfl rfl rfl (aY rfl) ⟨rfl,rfl,trivial⟩ ?_;obtain⟨D,M,h⟩:=aa h;refine bB rfl rfl rfl rfl rfl (aD (t:=am) rfl Uc dF M) ⟨rfl,rfl,rfl,trivial⟩ ?_;refine bB rfl rfl rfl rfl rfl (ao (t:=am) rfl dF rfl) ⟨rfl,rfl,trivial⟩ ?_;refine df cQ ?_;obtain⟨F,gw,h⟩:=aa h;refine gb (bR (N:=[(.tmp 82,.agg (.pair (I c.1) (.pair (I c.2.1) (.pair (I c.2.2.1) (.pair (I c.2.2.2.1) (.pair (.rep (.slice (.slice Tl)) c.2.2.2.2.1) (Rs aJ c.2.2.2.2.2))))))),(.tmp 86,.rep am D)]) (ax [.tmp 82,.tmp 86] rfl rfl Vn rfl (tu k (c.1,c.2.1,c.2.2.1,c.2.2.2.1,c.2.2.2.2.1,c.2.2.2.2.2) D F gw)) λ_ _ _ hn=>⟨(aM (t:=am) (x:=(c.1,c.2.1,c.2.2.1,c.2.2.2.1,c.2.2.2.2.1,c.2.2.2.2.2)) (.agg (.pair .int (.pair .int (.pair .int (.pair .int (.pair .rep .rep)))))) trivial rfl hn.1),hn.2.1,trivial⟩) ?_;refine ga (fh rfl) ?_;refine pf (nl ?_);exact jz ((), !F) h []
    .refine cv h (λh=>?_) (λh=>?_)
     .refine sr (cq (nt (aA (br (bb (bg ?_))))));obtain rfl:=hR _ h;exact ra
     .refine aZ (aI (tn (ae (mq ?_))));obtain⟨zz,J,h⟩:=aa h;refine jb (be rfl J) ?_;refine aq (nl ?_);exact jz ((),zz) h []
   .refine xa ?_;exact jz ((),()) h []
  .refine sr ?_;obtain⟨We,Y,h⟩:=aa h;refine cz rfl (bo [] rfl rfl Ta rfl (t9 k We Y)) trivial ?_;refine aq (nt (aA ?_));cases h;exact ra
