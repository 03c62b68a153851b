import Derived.Test.YtcollhgigbijkaaGreatVCFacts
open Nat
open List hiding mem_of_getElem?
open Array hiding mem_of_getElem? mk
set_option linter.unusedSimpArgs false
set_option linter.unusedVariables false
set_option maxRecDepth 4000
set_option maxHeartbeats 1000000
namespace Go.Proofs.YtcollhgigbijkaaGreat
open K Go Go.Proofs
def gX(k:Nat)(a0:bO):Option (Int×bO):=
 ((if a0.2.1 < (a0.1.length:Int) then((aQ a0.1 a0.2.1).bind λx3=>
 some (IntKind.u64.wrap ((IntKind.u64.wrap ((IntKind.u64.wrap (a0.2.2 * 6364136223846793005))+1442695040888963407))+(IntKind.u64.wrap ((IntKind.u64.wrap x3) * 2862933555777941757))))) else(some (IntKind.u64.wrap ((IntKind.u64.wrap (a0.2.2 * 6364136223846793005))+1442695040888963407)))):Option (Int)).bind λx1=>
 (ck (a0.2.1+1)).bind λx4=>
 some (g7 .u64 (sb .u64 (IntKind.u64.wrap ((sb .u64 x1 (g7 .u64 x1 29)) * 2685821657736338717)) (g7 .u64 (IntKind.u64.wrap ((sb .u64 x1 (g7 .u64 x1 29)) * 2685821657736338717)) 32)) 8,(a0.1,x4,x1))
theorem rX(k:Nat)(a0:bO)(c:Nat)(r:Int×bO)(h:gX k a0=some r):
 dH Tryz.prog 51 [Pt c] [.obj c 69 (.agg (.pair (.rep Tl a0.1) (.pair (I a0.2.1) (.eq (.int .u64 a0.2.2)))))] (λ_:Unit=>(bI [.eq (.int .u64 r.1)],[.obj c 69 (.agg (.pair (.rep Tl r.2.1) (.pair (I r.2.2.1) (.eq (.int .u64 r.2.2.2)))))])):=by
 unfold gX at h
 replace h:=bi h
 refine dH.of 67 Tryz.func51 rfl Tryz.ntmps51 rfl λS w0=>?_
 refine sr ?_
 refine cq ?_
 refine nt ?_
 refine sr ?_
 iterate 2 refine mq ?_
 refine ja (cJ rfl) ?_
 refine fl sf ?_
 refine lo DT ?_
 refine jb (AP rfl) ?_
 refine jb (GQ rfl) ?_
 refine ja (cJ rfl) ?_
 refine fl sf ?_
 refine aP rfl rfl (aM rfl DT rfl rfl rfl) ⟨rfl,rfl,trivial⟩ ?_
 refine nt ?_
 refine aG (Z:=Unit) (α:=Int) (λz2 x1=>[(0,Pt c)]) (λz2 x1=>[.obj c 69 (.agg (.pair (.rep Tl a0.1) (.pair (I a0.2.1) (.eq (.int .u64 x1)))))]) h (λK h=>?_) (λz2 x1 h=>?_)
 .
  refine ak (cP ?_);refine dm ?_;refine da (cJ rfl) ?_;refine da (aH rfl xw) ?_;refine ea 0 (ay rfl cL pe rfl) ?_;refine dm ?_;refine da (cJ rfl) ?_;refine da (aH rfl HN) ?_;refine ea 0 (ay rfl iF pe rfl) ?_;refine da (qA rfl rfl iv) ?_;refine df ew ?_;refine jb (bH rfl) ?_;refine nt (ci h (λh=>?_) (λh=>?_))
  .refine cP ?_;refine dm ?_;refine dm ?_;refine da (cJ rfl) ?_;refine da (aH rfl sf) ?_;refine ea 0 (ay rfl DT pe rfl) ?_;refine dm ?_;refine da (cJ rfl) ?_;refine da (aH rfl HN) ?_;refine ea 0 (ay rfl iF pe rfl) ?_;refine dm ?_;refine da (cJ rfl) ?_;refine da (aH rfl xw) ?_;refine ea 0 (ay rfl cL pe rfl) ?_;obtain⟨x3,j,h⟩:=aa h;refine db (aY (t:=Ti) rfl iv cL j) ?_;refine da (au (t:=Ti) rfl cL rfl) ?_;refine da (rK rfl U3 Ri) ?_;refine db (AP rfl) ?_;refine db (GQ rfl) ?_;refine df ew ?_;refine ja (cJ rfl) ?_;refine fl sf ?_;refine aP rfl rfl (aM rfl DT rfl rfl rfl) ⟨rfl,rfl,trivial⟩ ?_;refine nl ?_;exact jz ((),IntKind.u64.wrap ((IntKind.u64.wrap ((IntKind.u64.wrap (a0.2.2 * 6364136223846793005))+1442695040888963407))+(IntKind.u64.wrap ((IntKind.u64.wrap x3) * 2862933555777941757)))) h [0]
  .refine bf (an ?_);exact jz ((),IntKind.u64.wrap ((IntKind.u64.wrap (a0.2.2 * 6364136223846793005))+1442695040888963407)) h [0]
 .
  refine sr (mq ?_);refine ja (cJ rfl) ?_;refine fl xw ?_;refine lo cL ?_;obtain⟨x4,e,h⟩:=aa h;refine jb (bu rfl e) ?_;refine ja (cJ rfl) ?_;refine fl xw ?_;refine aP rfl rfl (aM rfl cL rfl rfl rfl) ⟨rfl,rfl,trivial⟩ ?_;refine nt (ak (cP ?_));refine dm ?_;refine da (cJ rfl) ?_;refine da (aH rfl sf) ?_;refine ea 0 (ay rfl DT pe rfl) ?_;refine dm ?_;refine da (cJ rfl) ?_;refine da (aH rfl sf) ?_;refine ea 0 (ay rfl DT pe rfl) ?_;refine fW rfl rfl rfl (t6 rfl (by decide)) ⟨rfl,rfl,trivial⟩ ?_;refine df ew ?_;refine jb (MF rfl) ?_;refine aq (nt (sr ?_));refine mq ?_;refine jb (AP rfl) ?_;refine aq (nt (sr ?_));iterate 2 refine mq ?_
  refine bY rfl (t6 rfl (by decide)) ⟨rfl,rfl,trivial⟩ ?_;refine jb (MF rfl) ?_;refine bY rfl (t6 rfl (by decide)) ⟨rfl,rfl,trivial⟩ ?_;refine aq (nt (aA ?_));cases h;exact aO () [_] 1 ⟨rfl,trivial⟩ rfl
def cu(k:Nat)(a0:bO)(a1:Int):Option (Int×bO):=
 if a1 < 1 then(some (0,(a0.1,a0.2.1,a0.2.2))) else((gX k (a0.1,a0.2.1,a0.2.2)).bind λr1=>
 (ck (a1+1)).bind λx2=>
 (cK ((IntKind.u64.wrap x2)≠0)).bind λ_=>
 (ck (Int.tmod r1.1 (IntKind.u64.wrap x2))).bind λx4=>
 some (x4,(r1.2.1,r1.2.2.1,r1.2.2.2)))
theorem cF(k:Nat)(a0:bO)(c:Nat)(a1:Int)(r:Int×bO)(h:cu k a0 a1=some r):
 dH Tryz.prog 21 [Pt c,I a1] [.obj c 69 (.agg (.pair (.rep Tl a0.1) (.pair (I a0.2.1) (.eq (.int .u64 a0.2.2)))))] (λ_:Unit=>(bI [I r.1],[.obj c 69 (.agg (.pair (.rep Tl r.2.1) (.pair (I r.2.2.1) (.eq (.int .u64 r.2.2.2)))))])):=by
 unfold cu at h
 replace h:=bi h
 refine dH.of 14 Tryz.func21 rfl Tryz.ntmps21 rfl λS w0=>?_
 refine sr ?_
 refine cq ?_
 refine nt ?_
 refine ak ?_
 refine sr ?_
 refine mq ?_
 refine jb (bH rfl) ?_
 refine nt ?_
 refine ci h (λh=>?_) (λh=>?_)
 .
  refine sr (cq (nt (rx ?_)));cases h;exact aO () [_] 1 ⟨rfl,trivial⟩ rfl
 .
  refine sk (sr (mq ?_));obtain⟨r1,n,h⟩:=aa h;refine ka (av [.tmp 7] rfl rfl SU rfl (rX k (a0.1,a0.2.1,a0.2.2) c r1 n)) ?_;refine mq ?_;obtain⟨x2,j,h⟩:=aa h;refine jb (bu rfl j) ?_;refine ja (rK rfl U3 Ri) ?_;obtain⟨u3,l,h⟩:=aa h;refine jb (PR rfl (am l)) ?_;obtain⟨x4,e,h⟩:=aa h;refine ja (yO rfl Ri U3 e) ?_;refine aq (nt (aA ?_));cases h;exact aO () [_] 1 ⟨rfl,trivial⟩ rfl
def fF(k:Nat)(a0:bO)(a1:Int)(a2:Int):Option (Int×bO):=
 (ck (a2 - a1)).bind λx1=>
 (cu k (a0.1,a0.2.1,a0.2.2) x1).bind λr2=>
 (ck (a1+r2.1)).bind λx3=>
 some (x3,(r2.2.1,r2.2.2.1,r2.2.2.2))
theorem iS(k:Nat)(a0:bO)(c:Nat)(a1:Int)(a2:Int)(r:Int×bO)(h:fF k a0 a1 a2=some r):
 dH Tryz.prog 61 [Pt c,I a1,I a2] [.obj c 69 (.agg (.pair (.rep Tl a0.1) (.pair (I a0.2.1) (.eq (.int .u64 a0.2.2)))))] (λ_:Unit=>(bI [I r.1],[.obj c 69 (.agg (.pair (.rep Tl r.2.1) (.pair (I r.2.2.1) (.eq (.int .u64 r.2.2.2)))))])):=by
 unfold fF at h
 replace h:=bi h
 refine dH.of 14 Tryz.func61 rfl Tryz.ntmps61 rfl λS w0=>?_
 refine sr ?_
 refine cq ?_
 refine nt ?_
 refine sr ?_
 iterate 4 refine mq ?_
 obtain⟨x1,j,h⟩:=aa h
 refine jb (eF rfl j) ?_
 obtain⟨r2,l,h⟩:=aa h
 have n:=cF k (a0.1,a0.2.1,a0.2.2) c x1 r2 l
 refine kb (av [.tmp 8,.tmp 11] rfl rfl vv rfl n) ?_
 obtain⟨x3,e,h⟩:=aa h
 refine jb (bu rfl e) ?_
 refine aq ?_
 refine nt ?_
 refine aA ?_
 cases h
 exact aO () [_] 1 ⟨rfl,trivial⟩ rfl
def gy(k:Nat)(a0:bO)(a1:(List Int)):Option (Int×bO):=
 (ck ((a1.length:Int) - 1)).bind λx1=>
 (cu k (a0.1,a0.2.1,a0.2.2) x1).bind λr2=>
 (aQ a1 r2.1).bind λx3=>
 some (x3,(r2.2.1,r2.2.2.1,r2.2.2.2))
theorem lj(k:Nat)(a0:bO)(c:Nat)(a1:(List Int))(r:Int×bO)(h:gy k a0 a1=some r):
 dH Tryz.prog 62 [Pt c,.rep Tl a1] [.obj c 69 (.agg (.pair (.rep Tl a0.1) (.pair (I a0.2.1) (.eq (.int .u64 a0.2.2)))))] (λ_:Unit=>(bI [I r.1],[.obj c 69 (.agg (.pair (.rep Tl r.2.1) (.pair (I r.2.2.1) (.eq (.int .u64 r.2.2.2)))))])):=by
 unfold gy at h
 replace h:=bi h
 refine dH.of 13 Tryz.func62 rfl Tryz.ntmps62 rfl λS w0=>?_
 refine sr ?_
 refine cq ?_
 refine nt ?_
 refine sr ?_
 iterate 3 refine mq ?_
 refine ol iv ?_
 obtain⟨x1,j,h⟩:=aa h
 refine jb (eF rfl j) ?_
 obtain⟨r2,l,h⟩:=aa h
 have n:=cF k (a0.1,a0.2.1,a0.2.2) c x1 r2 l
 refine kb (av [.tmp 6,.tmp 9] rfl rfl vv rfl n) ?_
 obtain⟨x3,e,h⟩:=aa h
 refine jb (aY (t:=Ti) rfl iv cL e) ?_
 refine ja (au (t:=Ti) rfl cL rfl) ?_
 refine aq ?_
 refine nt ?_
 refine aA ?_
 cases h
 exact aO () [_] 1 ⟨rfl,trivial⟩ rfl
def fh(k:Nat)(a0:bO)(a1:Int):Option (Bool×bO):=
 (ck (a1 - 1)).bind λx1=>
 (cu k (a0.1,a0.2.1,a0.2.2) x1).bind λr2=>
 some (decide (r2.1=0),(r2.2.1,r2.2.2.1,r2.2.2.2))
theorem jk(k:Nat)(a0:bO)(c:Nat)(a1:Int)(r:Bool×bO)(h:fh k a0 a1=some r):
 dH Tryz.prog 63 [Pt c,I a1] [.obj c 69 (.agg (.pair (.rep Tl a0.1) (.pair (I a0.2.1) (.eq (.int .u64 a0.2.2)))))] (λ_:Unit=>(bI [.eq (.bool r.1)],[.obj c 69 (.agg (.pair (.rep Tl r.2.1) (.pair (I r.2.2.1) (.eq (.int .u64 r.2.2.2)))))])):=by
 unfold fh at h
 replace h:=bi h
 refine dH.of 10 Tryz.func63 rfl Tryz.ntmps63 rfl λS w0=>?_
 refine sr ?_
 refine cq ?_
 refine nt ?_
 refine sr ?_
 iterate 2 refine mq ?_
 obtain⟨x1,e,h⟩:=aa h
 refine jb (eF rfl e) ?_
 obtain⟨r2,j,h⟩:=aa h
 have l:=cF k (a0.1,a0.2.1,a0.2.2) c x1 r2 j
 refine kb (av [.tmp 5,.tmp 7] rfl rfl vv rfl l) ?_
 refine jb (i8 rfl) ?_
 refine aq ?_
 refine nt ?_
 refine aA ?_
 cases h
 exact aO () [_] 1 ⟨rfl,trivial⟩ rfl
def iT(k:Nat)(a0:(List Int)):Option (List Int):=
 (cK (cf (length ([]:(List Int))+length a0))).bind λ_=>
 some (([]:(List Int))++a0)
theorem s6(k:Nat)(a0:(List Int))(r:(List Int))(h:iT k a0=some r):
 dH Tryz.prog 87 [.rep Tl a0] [] (λz:Value=>(bI [.eq z],[.sl z 3 Ti r])):=by
 unfold iT at h
 replace h:=bi h
 refine dH.of 6 Tryz.func87 rfl Tryz.ntmps87 rfl λS w0=>?_
 refine sr ?_
 refine cq ?_
 refine nt ?_
 refine sr ?_
 refine aX rfl rfl rfl (mN (t:=Ti) [] ([]:(List Int)) rfl rfl dR .nil rfl rfl) trivial λv1=>?_
 refine mq ?_
 obtain⟨u2,c,h⟩:=aa h
 refine eK rfl rfl rfl (cN rfl rfl dR (am c)) ⟨rfl,rfl,trivial⟩ λv3=>?_
 refine aq ?_
 refine nt ?_
 refine aA ?_
 cases h
 exact aO v3 [.eq v3] 1 ⟨rfl,trivial⟩ rfl
def dG(k:Nat)(a0:(List (List Int))):Nat->((List (List Int))×Int)->Option (List (List Int))
 |0,_=>none
 |n+1,y3=>
  if y3.2 < (a0.length:Int) then((aQ a0 y3.2).bind λx5=>
  (iT k x5).bind λr6=>
  (cK (cf (length y3.1+length [r6]))).bind λ_=>
  (ck (y3.2+1)).bind λc=>
  dG k a0 n (y3.1++[r6],c)) else(some y3.1)
def gZ(k:Nat)(a0:(List (List Int))):Option (List (List Int)):=
 ((dG k a0 k (([]:(List (List Int))),0)):Option ((List (List Int)))).bind λx1=>
 some x1
theorem sa(k:Nat)(a0:(List (List Int)))(r:(List (List Int)))(h:gZ k a0=some r):
 dH Tryz.prog 64 [.rep (.slice Tl) a0] [] (λz:Value=>(bI [.eq z],[.sl z 22 Tl r])):=by
 unfold gZ at h
 replace h:=bi h
 refine dH.of 20 Tryz.func64 rfl Tryz.ntmps64 rfl λS w0=>?_
 refine sr ?_
 refine cq ?_
 refine nt ?_
 refine sr ?_
 refine cq ?_
 refine nt ?_
 refine aG (Z:=Value) (α:=(List (List Int))) (λz2 x1=>[(3,.eq z2)]) (λz2 x1=>[.sl z2 22 Tl x1]) h (λK h=>?_) (λz2 x1 h=>?_)
 .
  refine sr (cq (nt (aj ?_)));refine jd (SE.nil 22 Tl) ?_;refine aE (λz4 y3=>[(0,.rep (.slice Tl) a0),(3,.eq z4),(4,I y3.2)]) (λz4 y3=>[.sl z4 22 Tl y3.1]) (dG k a0) k (.slice none 0 0) (([]:(List (List Int))),0) (λ_=>rfl) h (SE.fin [0] ⟨rfl,rfl,rfl,trivial⟩ rfl) (λn z4 y3 h=>?_);unfold dG at h;refine ak (sr ?_);iterate 2 refine mq ?_
  refine ol qX ?_;refine jb (bH rfl) ?_;refine nt (ci h (λh=>?_) (λh=>?_))
  .refine sk (ak (aj (ab ?_)));iterate 3 refine mq ?_
   obtain⟨x5,j,h⟩:=aa h;refine jb (aY (t:=Tl) rfl qX iF j) ?_;refine ja (au (t:=Tl) rfl iF rfl) ?_;obtain⟨r6,s,h⟩:=aa h;refine aX rfl rfl rfl (av [.tmp 15] rfl rfl Sz rfl (s6 k x5 r6 s)) ⟨rfl,trivial⟩ λv7=>?_;refine fg (jp [16] ⟨rfl,trivial⟩) ?_;refine ja (bg (t:=Tl) [(.tmp 16,_)] [r6] rfl rfl o8 (.cons rfl .rep .nil) rfl rfl) ?_;obtain⟨u8,l,h⟩:=aa h;refine eK rfl rfl rfl (cN rfl rfl o8 (am l)) ⟨rfl,rfl,trivial⟩ λv9=>?_;refine aq (aC (aR (tn (ab ?_))));refine mq ?_;obtain⟨e,c,h⟩:=aa h;refine jb (bu rfl c) ?_;refine aq (nl ?_);exact jz (v9,(y3.1++[r6],e)) h [0]
  .refine xa ?_;exact jz (z4,y3.1) h [0]
 .
  refine sr (mq ?_);refine aq (nt (aA ?_));cases h;exact aO z2 [.eq z2] 1 ⟨rfl,trivial⟩ rfl
def dT(k:Nat)(a1:Int):Nat->((List Int)×Int×Int×(List Int)×Int)->Option ((List Int)×(List Int)×Int×Int)
 |0,_=>none
 |n+1,y3=>
  if y3.2.2.2.2 < a1 then((cu k (y3.1,y3.2.1,y3.2.2.1) y3.2.2.2.2).bind λr5=>
  (cK (cf (length y3.2.2.2.1+length [y3.2.2.2.2]))).bind λ_=>
  (aQ (y3.2.2.2.1++[y3.2.2.2.2]) r5.1).bind λx8=>
  (aQ (y3.2.2.2.1++[y3.2.2.2.2]) y3.2.2.2.2).bind λx9=>
  (aQ (List.set (y3.2.2.2.1++[y3.2.2.2.2]) (Int.toNat y3.2.2.2.2) x8) r5.1).bind λe=>
  (ck (y3.2.2.2.2+1)).bind λc=>
  dT k a1 n (r5.2.1,r5.2.2.1,r5.2.2.2,List.set (List.set (y3.2.2.2.1++[y3.2.2.2.2]) (Int.toNat y3.2.2.2.2) x8) (Int.toNat r5.1) y3.2.2.2.2,c)) else(some (y3.2.2.2.1,y3.1,y3.2.1,y3.2.2.1))
def gz(k:Nat)(a0:bO)(a1:Int):Option ((List Int)×bO):=
 ((dT k a1 k (a0.1,a0.2.1,a0.2.2,([]:(List Int)),0)):Option ((List Int)×(List Int)×Int×Int)).bind λx1=>
 some (x1.1,(x1.2.1,x1.2.2.1,x1.2.2.2))
theorem qN(k:Nat)(a0:bO)(c:Nat)(a1:Int)(r:(List Int)×bO)(h:gz k a0 a1=some r):
 dH Tryz.prog 88 [Pt c,I a1] [.obj c 69 (.agg (.pair (.rep Tl a0.1) (.pair (I a0.2.1) (.eq (.int .u64 a0.2.2)))))] (λ_:Unit=>(bI [.rep Tl r.1],[.obj c 69 (.agg (.pair (.rep Tl r.2.1) (.pair (I r.2.2.1) (.eq (.int .u64 r.2.2.2)))))])):=by
 unfold gz at h
 replace h:=bi h
 refine dH.of 32 Tryz.func88 rfl Tryz.ntmps88 rfl λS w0=>?_
 refine sr ?_
 refine cq ?_
 refine nt ?_
 refine sr ?_
 refine cq ?_
 refine nt ?_
 refine aG (Z:=Value) (α:=(List Int)×(List Int)×Int×Int) (λz2 x1=>[(5,.eq z2)]) (λz2 x1=>[.sl z2 3 Ti x1.1,.obj c 69 (.agg (.pair (.rep Tl x1.2.1) (.pair (I x1.2.2.1) (.eq (.int .u64 x1.2.2.2)))))]) h (λK h=>?_) (λz2 x1 h=>?_)
 .
  refine sr (cq (nt (aj ?_)));refine jd (SE.nil 3 Ti) ?_;refine aE (λz4 y3=>[(0,Pt c),(1,I a1),(5,.eq z4),(6,I y3.2.2.2.2)]) (λz4 y3=>[.obj c 69 (.agg (.pair (.rep Tl y3.1) (.pair (I y3.2.1) (.eq (.int .u64 y3.2.2.1))))),.sl z4 3 Ti y3.2.2.2.1]) (dT k a1) k (.slice none 0 0) (a0.1,a0.2.1,a0.2.2,([]:(List Int)),0) (λ_=>rfl) h (SE.fin [1,0] ⟨rfl,rfl,rfl,rfl,trivial⟩ rfl) (λn z4 y3 h=>?_);unfold dT at h;refine ak (sr ?_);iterate 2 refine mq ?_
  refine jb (bH rfl) ?_;refine nt (ci h (λh=>?_) (λh=>?_))
  .refine sk (ak (aj (sr ?_)));iterate 2 refine mq ?_
   obtain⟨r5,y,h⟩:=aa h;refine kb (av [.tmp 13,.tmp 14] rfl rfl vv rfl (cF k (y3.1,y3.2.1,y3.2.2.1) c y3.2.2.2.2 r5 y)) ?_;refine aq (nt (sr ?_));iterate 2 refine mq ?_
   refine ja (bg (t:=Ti) [(.tmp 17,_)] [y3.2.2.2.2] rfl rfl dR (.cons rfl .int .nil) rfl rfl) ?_;obtain⟨u6,x,h⟩:=aa h;refine fr 1 ?_;refine eK rfl rfl rfl (cN rfl rfl dR (am x)) ⟨rfl,rfl,trivial⟩ λv7=>?_;refine aq (nt (ab ?_));iterate 6 refine mq ?_
   obtain⟨x8,l,h⟩:=aa h;refine kb (bX (t:=Ti) rfl iv cL l) ?_;refine ka (f8 (i:=Int.toNat r5.1) (off:=0) rfl cL (λ_=>rfl) rfl (dw l).2.2 rfl) ?_;refine mq ?_;obtain⟨x9,j,h⟩:=aa h;refine kb (bX (t:=Ti) rfl iv cL j) ?_;refine aP rfl rfl (fD (i:=Int.toNat y3.2.2.2.2) rfl cL rfl (lR j) rfl .int rfl) ⟨rfl,rfl,trivial⟩ ?_;obtain⟨D,e,h⟩:=aa h;refine kb (bX (t:=Ti) rfl iv cL e) ?_;refine aP rfl rfl (fD (i:=Int.toNat r5.1) rfl cL rfl (lR e) rfl .int rfl) ⟨rfl,rfl,trivial⟩ ?_;refine aC (aR (tn (ab (mq ?_))));obtain⟨u,s,h⟩:=aa h;refine jb (bu rfl s) ?_;refine aq (nl ?_);exact jz (v7,(r5.2.1,r5.2.2.1,r5.2.2.2,List.set (List.set (y3.2.2.2.1++[y3.2.2.2.2]) (Int.toNat y3.2.2.2.2) x8) (Int.toNat r5.1) y3.2.2.2.2,u)) h [1,0]
  .refine xa ?_;exact jz (z4,(y3.2.2.2.1,y3.1,y3.2.1,y3.2.2.1)) h [1,0]
 .
  refine sr (mq ?_);refine aq (nt (aA ?_));refine bU (jp [4,5,31] ⟨rfl,rfl,rfl,trivial⟩) ?_;cases h;exact aO () [_] 1 ⟨rfl,trivial⟩ rfl
def gY(k:Nat)(a0:bO)(a1:xE):Option (bF×bO):=
 (ck (a1.1 - 1)).bind λx3=>
 (cu k (a0.1,a0.2.1,a0.2.2) x3).bind λr4=>
 (cu k (r4.2.1,r4.2.2.1,r4.2.2.2) (a1.2.2.2.2.1.length:Int)).bind λr5=>
 (fh k (r5.2.1,r5.2.2.1,r5.2.2.2) 2).bind λr6=>
 some ((r4.1,r5.1,r6.1),(r6.2.1,r6.2.2.1,r6.2.2.2))
theorem rZ(k:Nat)(a0:bO)(c:Nat)(a1:xE)(r:bF×bO)(h:gY k a0 a1=some r):
 dH Tryz.prog 33 [Pt c,.rep BR a1] [.obj c 69 (.agg (.pair (.rep Tl a0.1) (.pair (I a0.2.1) (.eq (.int .u64 a0.2.2)))))] (λ_:Unit=>(bI [.rep bb r.1],[.obj c 69 (.agg (.pair (.rep Tl r.2.1) (.pair (I r.2.2.1) (.eq (.int .u64 r.2.2.2)))))])):=by
 unfold gY at h
 replace h:=bi h
 refine dH.of 18 Tryz.func33 rfl Tryz.ntmps33 rfl λS w0=>?_
 refine sr ?_
 refine bx λb1=>?_
 refine aX rfl rfl rfl (bo rfl DF Lr) trivial λb2=>?_
 refine nt ?_
 refine ak ?_
 refine EW [1,2,3,5,6,7,8,10,0,4,9,11,12,13] (by kernel_rfl) ?_
 refine bN rfl rfl rfl (aH rfl gA) ⟨rfl,trivial⟩ ?_
 refine gU 1 rfl rfl rfl rfl (ay rfl cL pe rfl) ⟨rfl,trivial⟩ ?_
 obtain⟨x3,E,h⟩:=aa h
 refine bN rfl rfl rfl (eF rfl E) ⟨rfl,rfl,trivial⟩ ?_
 refine bN rfl rfl rfl (bG rfl) ⟨rfl,trivial⟩ ?_
 refine bN rfl rfl rfl (aH rfl eI) ⟨rfl,trivial⟩ ?_
 refine gU 1 rfl rfl rfl rfl (ay rfl lC pe rfl) ⟨rfl,trivial⟩ ?_
 refine bN rfl rfl rfl (qA rfl rfl Aj) ⟨rfl,trivial⟩ ?_
 refine bN rfl rfl rfl (bG rfl) ⟨rfl,trivial⟩ ?_
 refine bN rfl rfl rfl (bG rfl) ⟨rfl,trivial⟩ ?_
 refine uS 9 [true,true,true,false,false,false,false,false,true] [9,14] [1] [.obj b1 26 (.rep BR a1)] rfl (by kernel_rfl) (by kernel_rfl) (by kernel_rfl) ew (λvs hv hB=>?_)
 obtain⟨w0,Un,rfl,D⟩:=ax hv
 obtain⟨w1,zz,rfl,y⟩:=ax D
 obtain⟨w2,qt,rfl,x⟩:=ax y
 obtain⟨w3,mw,rfl,u⟩:=ax x
 obtain⟨w4,mc,rfl,s⟩:=ax u
 obtain⟨w5,gw,rfl,n⟩:=ax s
 obtain⟨w6,Z,rfl,l⟩:=ax n
 obtain⟨w7,Y,rfl,j⟩:=ax l
 obtain⟨w8,X,rfl,e⟩:=ax j
 obtain rfl:=qK e
 refine⟨[1,0,2],[.obj b2 59 (.agg (.pair (I 0) (.pair (I 0) (.eq (.bool false))))),.obj c 69 (.agg (.pair (.rep Tl a0.1) (.pair (I a0.2.1) (.eq (.int .u64 a0.2.2)))))],by kernel_rfl,by decide,?_⟩
 obtain⟨r4,M,h⟩:=aa h
 have U:=cF k (a0.1,a0.2.1,a0.2.2) c x3 r4 M
 refine rf 1 rfl ?_
 refine uO rfl rfl rfl rfl (av [.tmp 5,.tmp 8] rfl rfl vv rfl U) ⟨rfl,rfl,trivial⟩ (by kernel_rfl) ?_
 obtain⟨r5,J,h⟩:=aa h
 have Q:=cF k (r4.2.1,r4.2.2.1,r4.2.2.2) c (a1.2.2.2.2.1.length:Int) r5 J
 refine uO rfl rfl rfl rfl (av [.tmp 10,.tmp 13] rfl rfl vv rfl Q) ⟨rfl,rfl,trivial⟩ (by kernel_rfl) ?_
 refine OP (by kernel_rfl) ?_
 obtain⟨r6,F,h⟩:=aa h
 have O:=jk k (r5.2.1,r5.2.2.1,r5.2.2.2) c 2 r6 F
 refine fr 1 ?_
 refine kb (av [.tmp 15,.const (.int .i64 (2))] rfl rfl Ol rfl O) ?_
 refine jc (dY [(0,.tmp 9,_),(1,.tmp 14,_),(2,.tmp 16,_)] rfl PK DF MP (jC ⟨rfl,rfl,rfl,trivial⟩) rfl) ?_
 refine fr 2 ?_
 refine aP rfl rfl (aM rfl tG trivial rfl rfl) ⟨rfl,rfl,trivial⟩ ?_
 refine nt ?_
 refine aA ?_
 refine bU (ik (a:=.agg (.pair (I r4.1) (.pair (I r5.1) (.eq (.bool r6.1))))) (a':=.rep bb (r4.1,r5.1,r6.1)) (jr (.agg (.pair .int (.pair .int .bool))))) ?_
 refine bU (SE.fin (Γ':=[(4,_)]) [1,0,2] ⟨rfl,trivial⟩ rfl) ?_
 cases h
 exact aO () [.rep bb (r4.1,r5.1,r6.1)] 1 ⟨⟨_,_,_,_,_,rfl,(.tail _ (.head _)),tG,(tj),rfl⟩,trivial⟩ rfl
def lP(k:Nat)(a0:(List Int)):Option bO:=
 some (a0,0,1)
theorem uk(k:Nat)(a0:(List Int))(r:bO)(h:lP k a0=some r):
 dH Tryz.prog 11 [.rep Tl a0] [] (λz:Nat=>(bI [Pt z],[.obj z 69 (.agg (.pair (.rep Tl r.1) (.pair (I r.2.1) (.eq (.int .u64 r.2.2)))))])):=by
 unfold lP at h
 replace h:=bi h
 refine dH.of 6 Tryz.func11 rfl Tryz.ntmps11 rfl λS w0=>?_
 refine sr ?_
 refine cq ?_
 refine nt ?_
 refine sr ?_
 refine mq ?_
 refine jb (dY [(0,.tmp 3,_),(2,.const (.int .u64 (1)),_)] rfl RF Rw QN (jC ⟨rfl,rfl,trivial⟩) rfl) ?_
 refine aX rfl rfl rfl (vT rfl trivial) ⟨rfl,trivial⟩ λb1=>?_
 refine aq ?_
 refine nt ?_
 refine aA ?_
 cases h
 exact aO b1 [Pt b1] 1 ⟨rfl,trivial⟩ rfl
def eS(k:Nat)(a0:Int)(a1:Int):Option Int:=
 (cK (0≤a1)).bind λ_=>
 some (wa .u8 a0 (oc .u8 1 a1))
theorem ic(k:Nat)(a0:Int)(a1:Int)(r:Int)(h:eS k a0 a1=some r):
 dH Tryz.prog 50 [.eq (.int .u8 a0),I a1] [] (λ_:Unit=>(bI [.eq (.int .u8 r)],[])):=by
 unfold eS at h
 replace h:=bi h
 refine dH.of 9 Tryz.func50 rfl Tryz.ntmps50 rfl λS w0=>?_
 refine sr ?_
 refine cq ?_
 refine nt ?_
 refine sr ?_
 iterate 2 refine mq ?_
 obtain⟨u1,c,h⟩:=aa h
 refine jb (MG rfl (am c)) ?_
 refine jb (PS rfl) ?_
 refine aq ?_
 refine nt ?_
 refine aA ?_
 cases h
 exact ra
def dE(k:Nat)(a0:Int)(a1:Int)(a2:Int):Option Bool:=
 ((if a1≤a0 then(some (decide (a0≤a2))) else(some false)):Option (Bool)).bind λx1=>
 some x1
theorem dK(k:Nat)(a0:Int)(a1:Int)(a2:Int)(r:Bool)(h:dE k a0 a1 a2=some r):
 dH Tryz.prog 72 [I a0,I a1,I a2] [] (λ_:Unit=>(bI [.eq (.bool r)],[])):=by
 unfold dE at h
 replace h:=bi h
 refine dH.of 15 Tryz.func72 rfl Tryz.ntmps72 rfl λS w0=>?_
 refine sr ?_
 refine cq ?_
 refine nt ?_
 refine aG (Z:=Unit) (α:=Bool) (λz2 x1=>[(6,.eq (.bool x1))]) (λz2 x1=>[]) h (λK h=>?_) (λz2 x1 h=>?_)
 .
  refine ab ?_;iterate 2 refine mq ?_
  refine jb (BX rfl) ?_;refine mq ?_;refine cT (s:=10) rfl (λhb=>?_) (λhb=>?_)
  .replace h:=fR (wu hb) h;refine gm ?_;refine gm ?_;refine gb (BX rfl) ?_;refine pt ?_;refine aq (nl ?_);exact jz ((),decide (a0≤a2)) h []
  .replace h:=dr (wv hb) h;iterate 3 refine gn ?_
   refine pf ?_;refine aq (nl ?_);exact jz ((),false) h []
 .
  refine aA ?_;cases h;exact ra
def fZ(k:Nat)(a0:ae)(a1:bF):Option Int:=
 (((ck (a0.1 - 1)).bind λx5=>
 (dE k a1.1 0 x5).bind λr6=>
 if¬(r6=true) then(some true) else((dE k a1.2.1 0 (a0.2.2.2.2.1.length:Int)).bind λr7=>
 some (!r7))):Option (Bool)).bind λx3=>
 if x3=true then(some 3) else(some 0)
theorem pQ(k:Nat)(a0:ae)(a1:bF)(r:Int)(h:fZ k a0 a1=some r):
 dH Tryz.prog 68 [.rep ap a0,.rep bb a1] [] (λ_:Unit=>(bI [I r],[])):=by
 unfold fZ at h
 replace h:=bi h
 refine dH.of 21 Tryz.func68 rfl Tryz.ntmps68 rfl λS w0=>?_
 refine sr ?_
 refine bx λb1=>?_
 refine bx λb2=>?_
 refine cq ?_
 refine nt ?_
 refine ak ?_
 refine aG (Z:=Unit) (α:=Bool) (λz4 x3=>[(20,.eq (.bool x3))]) (λz4 x3=>[]) h (λK h=>?_) (λz4 x3 h=>?_)
 .
  refine ab (fl HQ ?_);refine lo cL ?_;refine fl gA ?_;refine fr 1 ?_;refine lo cL ?_;obtain⟨x5,c,h⟩:=aa h;refine jb (eF rfl c) ?_;obtain⟨r6,j,h⟩:=aa h;refine jc (av [.tmp 6,.const (.int .i64 (0)),.tmp 9] rfl rfl xC rfl (dK k a1.1 0 x5 r6 j)) ?_;refine ja (iK rfl) ?_;refine mq ?_;refine cT (s:=12) rfl (λhb=>?_) (λhb=>?_)
  .replace h:=fR (AS hb) h;iterate 7 refine gn ?_
   refine pt (nl ?_);exact jz ((),true) h []
  .replace h:=dr (t7 hb) h;refine ga (aH rfl HO) ?_;refine fr 1 ?_;refine nh rfl rfl rfl rfl rfl rfl (ay rfl cL pe rfl) ⟨rfl,trivial⟩ ?_;refine ga (aH rfl eI) ?_;refine fr 1 ?_;refine nh rfl rfl rfl rfl rfl rfl (ay rfl lC pe rfl) ⟨rfl,trivial⟩ ?_;refine ga (qA rfl rfl Aj) ?_;obtain⟨r7,e,h⟩:=aa h;refine gc (av [.tmp 14,.const (.int .i64 (0)),.tmp 17] rfl rfl xC rfl (dK k a1.2.1 0 (a0.2.2.2.2.1.length:Int) r7 e)) ?_;refine ga (iK rfl) ?_;refine pf (nl ?_);exact jz ((), !r7) h []
 .
  refine cv h (λh=>?_) (λh=>?_)
  .refine sr (cq (nt (rx ?_)));cases h;exact ra
  .refine sk (sr (cq (nt (aA ?_))));cases h;exact ra
def eU(k:Nat)(a0:Int)(a1:Int):Option Bool:=
 (cK (0≤a1)).bind λ_=>
 some (decide ((pV .u8 (g7 .u8 a0 a1) 1)=1))
theorem gu(k:Nat)(a0:Int)(a1:Int)(r:Bool)(h:eU k a0 a1=some r):
 dH Tryz.prog 75 [.eq (.int .u8 a0),I a1] [] (λ_:Unit=>(bI [.eq (.bool r)],[])):=by
 unfold eU at h
 replace h:=bi h
 refine dH.of 10 Tryz.func75 rfl Tryz.ntmps75 rfl λS w0=>?_
 refine sr ?_
 refine cq ?_
 refine nt ?_
 refine sr ?_
 iterate 2 refine mq ?_
 obtain⟨u1,c,h⟩:=aa h
 refine jb (t6 rfl (am c)) ?_
 refine jb (PV rfl) ?_
 refine jb (i8 rfl) ?_
 refine aq ?_
 refine nt ?_
 refine aA ?_
 cases h
 exact ra
def cZ(k:Nat)(a0:ae)(x8:(List Int)):Nat->(Int×Int)->Option (Except Int Int)
 |0,_=>none
 |n+1,y9=>
  if y9.2 < (x8.length:Int) then((aQ x8 y9.2).bind λc=>
  (ck (a0.1 - 1)).bind λh=>
  (dE k c 0 h).bind λr=>
  if¬(r=true) then(some (.error 3)) else((eU k y9.1 c).bind λl=>
  if l=true then(some (.error 4)) else((eS k y9.1 c).bind λj=>
  (ck (y9.2+1)).bind λe=>
  cZ k a0 x8 n (j,e)))) else(some (.ok y9.1))
def c6(k:Nat)(a0:ae)(a1:(List (List Int))):Nat->(Int×Int)->Option (Except Int Unit)
 |0,_=>none
 |n+1,y4=>
  if y4.2 < (a1.length:Int) then(bE (α:=Int) ((aQ a1 y4.2).bind λx8=>
  cZ k a0 x8 k (y4.1,0)) (λe=>some (.error e)) λx6=>
  (ck (y4.2+1)).bind λc=>
  c6 k a0 a1 n (x6,c)) else(some (.ok ()))
def iO(k:Nat)(a0:ae)(a1:(List (List Int))):Option Int:=
 if 3 < (a1.length:Int) then(some 6) else(bE (α:=Unit) (c6 k a0 a1 k (0,0)) (some) λ_=>
 some 0)
theorem s4(k:Nat)(a0:ae)(a1:(List (List Int)))(r:Int)(h:iO k a0 a1=some r):
 dH Tryz.prog 90 [.rep ap a0,.rep (.slice Tl) a1] [] (λ_:Unit=>(bI [I r],[])):=by
 unfold iO at h
 replace h:=bi h
 refine dH.of 39 Tryz.func90 rfl Tryz.ntmps90 rfl λS w0=>?_
 refine sr ?_
 refine bx λb1=>?_
 refine cq ?_
 refine nt ?_
 refine ak ?_
 refine sr ?_
 refine mq ?_
 refine ol qX ?_
 refine jb (ml rfl) ?_
 refine nt ?_
 refine ci h (λh=>?_) (λh=>?_)
 .
  refine sr (cq (nt (rx ?_)));cases h;exact ra
 .
  refine sk (sr (cq (nt ?_)));refine du (Z:=Unit) (α:=Unit) (λz3 x2=>[]) (λz3 x2=>[]) (λe=>e=r) h (λe h=>Option.some.inj h) (λK hR h=>?_) (λz3 x2 h=>?_)
  .refine sr (mq ?_);refine ol qX ?_;refine eG rfl ?_;refine nt (aj (aE (λz5 y4=>[(2,Pt b1),(5,.eq (.int .u8 y4.1)),(13,.rep (.slice Tl) a1),(14,I (a1.length:Int)),(15,I y4.2)]) (λz5 y4=>[.obj b1 26 (.rep ap a0)]) (c6 k a0 a1) k () (0,0) (λ_=>rfl) h (SE.fin [0] ⟨rfl,rfl,rfl,rfl,rfl,trivial⟩ rfl) (λn z5 y4 h=>?_)));unfold c6 at h;refine sr (jb (bH rfl) ?_);refine nt (ak (ci h (λh=>?_) (λh=>?_)))
   .refine sk (du (Z:=Unit) (α:=Int) (λz7 x6=>[(2,Pt b1),(5,.eq (.int .u8 x6)),(13,.rep (.slice Tl) a1),(14,I (a1.length:Int)),(15,I y4.2)]) (λz7 x6=>[.obj b1 26 (.rep ap a0)]) (λe=>e=r) h (λe h=>hR e h) (λK hR h=>?_) (λz7 x6 h=>?_))
    .refine aj (sr ?_);obtain⟨x8,X,h⟩:=aa h;refine jb (aY (t:=Tl) rfl qX iF X) ?_;refine ja (au (t:=Tl) rfl iF rfl) ?_;refine aq (nt (sr ?_));refine mq ?_;refine ol iv ?_;refine eG rfl ?_;refine nt (aj (aE (λj y9=>[(2,Pt b1),(5,.eq (.int .u8 y9.1)),(13,.rep (.slice Tl) a1),(14,I (a1.length:Int)),(15,I y4.2),(19,.rep Tl x8),(20,I (x8.length:Int)),(21,I y9.2)]) (λj y9=>[.obj b1 26 (.rep ap a0)]) (cZ k a0 x8) k () (y4.1,0) (λ_=>rfl) h (SE.fin [0] ⟨rfl,rfl,rfl,rfl,rfl,rfl,rfl,rfl,trivial⟩ rfl) (λn j y9 h=>?_)));unfold cZ at h;refine sr (jb (bH rfl) ?_);refine nt (ak (ci h (λh=>?_) (λh=>?_)))
     .refine sk (ak (aj (sr ?_)));obtain⟨c,y,h⟩:=aa h;refine jb (aY (t:=Ti) rfl iv cL y) ?_;refine ja (au (t:=Ti) rfl cL rfl) ?_;refine aq (nt (ak (sr ?_)));refine mq ?_;refine fl gA ?_;refine lo cL ?_;obtain⟨O,x,h⟩:=aa h;refine jb (eF rfl x) ?_;obtain⟨U,F,h⟩:=aa h;refine jc (av [.tmp 25,.const (.int .i64 (0)),.tmp 28] rfl rfl xC rfl (dK k c 0 O U F)) ?_;refine ja (iK rfl) ?_;refine nt (cw h (λh=>?_) (λh=>?_))
      .refine sr (cq (nt (rx (br (ba (br (ba (aW ?_))))))));obtain rfl:=hR _ h;exact ra
      .refine sk (ak (sr ?_));iterate 2 refine mq ?_
       obtain⟨Q,E,h⟩:=aa h;refine jb (av [.tmp 31,.tmp 32] rfl rfl HY rfl (gu k y9.1 c Q E)) ?_;refine nt (cv h (λh=>?_) (λh=>?_))
       .refine sr (cq (nt (rx (br (ba (br (ba (aW ?_))))))));obtain rfl:=hR _ h;exact ra
       .refine sk (ab ?_);iterate 2 refine mq ?_
        obtain⟨l,D,h⟩:=aa h;refine jb (av [.tmp 34,.tmp 35] rfl rfl KY rfl (ic k y9.1 c l D)) ?_;refine aq (aC (aR (tn (ab ?_))));obtain⟨M,u,h⟩:=aa h;refine jb (bu rfl u) ?_;refine mq (nl ?_);exact jz ((),(l,M)) h [0]
     .refine fV (bR (bR (c8 (bn ?_))));exact jz ((),y9.1) h [0]
    .refine ab ?_;obtain⟨J,s,h⟩:=aa h;refine jb (bu rfl s) ?_;refine mq (nl ?_);exact jz ((),(x6,J)) h [0]
   .refine xa ?_;exact jz ((),()) h []
  .refine sr (cq (nt (aA ?_)));cases h;exact ra
def eZ(k:Nat)(a0:ae):Nat->Int->Option (Except Int Unit)
 |0,_=>none
 |n+1,c=>
  if c < (a0.2.2.2.2.1.length:Int) then((aQ a0.2.2.2.2.1 c).bind λj=>
  (iO k a0 j).bind λe=>
  if¬(e=0) then(some (.error e)) else((ck (c+1)).bind λh=>
  eZ k a0 n h)) else(some (.ok ()))
def eY(k:Nat)(a0:ae):Nat->Int->Option (Except Int Unit)
 |0,_=>none
 |n+1,c=>
  if c < (a0.2.2.2.2.2.length:Int) then((aQ a0.2.2.2.2.2 c).bind λj=>
  (fZ k a0 j).bind λe=>
  if¬(e=0) then(some (.error e)) else((ck (c+1)).bind λh=>
  eY k a0 n h)) else(some (.ok ()))
def mr(k:Nat)(a0:ae):Option Int:=
 (((dE k a0.1 1 5).bind λr4=>
 if¬(r4=true) then(some true) else((dE k a0.2.1 0 3).bind λr5=>
 if¬(r5=true) then(some true) else((dE k a0.2.2.1 0 3).bind λr6=>
 if¬(r6=true) then(some true) else((dE k a0.2.2.2.1 1 3).bind λr7=>
 some (!r7))))):Option (Bool)).bind λx2=>
 if x2=true then(some 1) else(if(a0.2.2.2.2.1.length:Int) < 1 then(some 7) else(if 6 < (a0.2.2.2.2.1.length:Int) then(some 6) else(bE (α:=Unit) (eZ k a0 k 0) (some) λ_=>
 if 8 < (a0.2.2.2.2.2.length:Int) then(some 6) else(bE (α:=Unit) (eY k a0 k 0) (some) λ_=>
 some 0))))
theorem xh(k:Nat)(a0:ae)(r:Int)(h:mr k a0=some r):
 dH Tryz.prog 71 [.rep ap a0] [] (λ_:Unit=>(bI [I r],[])):=by
 unfold mr at h
 replace h:=bi h
 refine dH.of 73 Tryz.func71 rfl Tryz.ntmps71 rfl λS w0=>?_
 refine sr ?_
 refine bx λb1=>?_
 refine cq ?_
 refine nt ?_
 refine ak ?_
 refine aG (Z:=Unit) (α:=Bool) (λz3 x2=>[(1,Pt b1),(31,.eq (.bool x2))]) (λz3 x2=>[.obj b1 26 (.rep ap a0)]) h (λK h=>?_) (λz3 x2 h=>?_)
 .
  refine ab (fl gA ?_);refine lo cL ?_;obtain⟨r4,Un,h⟩:=aa h;refine jc (av [.tmp 11,.const (.int .i64 (1)),.const (.int .i64 (5))] rfl rfl xC rfl (dK k a0.1 1 5 r4 Un)) ?_;refine ja (iK rfl) ?_;refine mq ?_;refine cT (s:=14) rfl (λhb=>?_) (λhb=>?_)
  .replace h:=fR (AS hb) h;iterate 4 refine gn ?_
   refine pt ?_;refine mq ?_;iterate 4 refine gn ?_
   refine pt ?_;refine mq ?_;iterate 4 refine gn ?_
   refine pt (nl ?_);exact jz ((),true) h [0]
  .replace h:=dr (t7 hb) h;refine ga (aH rfl Bj) ?_;refine nh rfl rfl rfl rfl rfl rfl (ay rfl cL pe rfl) ⟨rfl,trivial⟩ ?_;obtain⟨r5,zz,h⟩:=aa h;refine gc (av [.tmp 16,.const (.int .i64 (0)),.const (.int .i64 (3))] rfl rfl xC rfl (dK k a0.2.1 0 3 r5 zz)) ?_;refine ga (iK rfl) ?_;refine pf ?_;refine mq ?_;refine cT (s:=20) rfl (λhb=>?_) (λhb=>?_)
   .replace h:=fR (AS hb) h;iterate 4 refine gn ?_
    refine pt ?_;refine mq ?_;iterate 4 refine gn ?_
    refine pt (nl ?_);exact jz ((),true) h [0]
   .replace h:=dr (t7 hb) h;refine ga (aH rfl Bi) ?_;refine nh rfl rfl rfl rfl rfl rfl (ay rfl cL pe rfl) ⟨rfl,trivial⟩ ?_;obtain⟨r6,qt,h⟩:=aa h;refine gc (av [.tmp 22,.const (.int .i64 (0)),.const (.int .i64 (3))] rfl rfl xC rfl (dK k a0.2.2.1 0 3 r6 qt)) ?_;refine ga (iK rfl) ?_;refine pf ?_;refine mq ?_;refine cT (s:=26) rfl (λhb=>?_) (λhb=>?_)
    .replace h:=fR (AS hb) h;iterate 4 refine gn ?_
     refine pt (nl ?_);exact jz ((),true) h [0]
    .replace h:=dr (t7 hb) h;refine ga (aH rfl HS) ?_;refine nh rfl rfl rfl rfl rfl rfl (ay rfl cL pe rfl) ⟨rfl,trivial⟩ ?_;obtain⟨r7,mw,h⟩:=aa h;refine gc (av [.tmp 28,.const (.int .i64 (1)),.const (.int .i64 (3))] rfl rfl xC rfl (dK k a0.2.2.2.1 1 3 r7 mw)) ?_;refine ga (iK rfl) ?_;refine pf (nl ?_);exact jz ((), !r7) h [0]
 .
  refine cv h (λh=>?_) (λh=>?_)
  .refine sr (cq (nt (rx ?_)));cases h;exact ra
  .refine sk (ak (sr (fl eI ?_)));refine lo lC ?_;refine ol Aj ?_;refine aq (nt (aj (sr ?_)));refine mq ?_;refine jb (bH rfl) ?_;refine aq (nt ?_);refine ci h (λh=>?_) (λh=>?_)
   .refine sr (cq (nt (aA (ba (aW ?_)))));cases h;exact ra
   .refine sr (mq ?_);refine jb (ml rfl) ?_;refine aq (nt ?_);refine ci h (λh=>?_) (λh=>?_)
    .refine sr (cq (nt (aA (ba (aW ?_)))));cases h;exact ra
    .refine bf (aR (tn (du (Z:=Unit) (α:=Unit) (λz9 x8=>[(1,Pt b1)]) (λz9 x8=>[.obj b1 26 (.rep ap a0)]) (λe=>e=r) h (λe h=>Option.some.inj h) (λK hR h=>?_) (λz9 x8 h=>?_))))
     .refine sr (fl eI ?_);refine lo lC ?_;refine ol Aj ?_;refine eG rfl ?_;refine nt (aj (aE (λx j=>[(1,Pt b1),(42,.rep (.slice (.slice Tl)) a0.2.2.2.2.1),(43,I (a0.2.2.2.2.1.length:Int)),(44,I j)]) (λx j=>[.obj b1 26 (.rep ap a0)]) (eZ k a0) k () 0 (λ_=>rfl) h (SE.fin [0] ⟨rfl,rfl,rfl,rfl,trivial⟩ rfl) (λn x j h=>?_)));unfold eZ at h;refine sr (jb (bH rfl) ?_);refine nt (ak (ci h (λh=>?_) (λh=>?_)))
      .refine sk (ak (aj (sr ?_)));obtain⟨Y,J,h⟩:=aa h;refine jb (aY (t:=(.slice Tl)) rfl Aj yC J) ?_;refine ja (au (t:=(.slice Tl)) rfl yC rfl) ?_;refine aq (nt (sr ?_));refine lo im ?_;refine mq ?_;obtain⟨mc,O,h⟩:=aa h;refine jb (av [.tmp 48,.tmp 49] rfl rfl Sl rfl (s4 k a0 Y mc O)) ?_;refine aq (nt (sr ?_));refine mq ?_;refine jb (eQ rfl) ?_;refine nt (cn h (λh=>?_) (λh=>?_))
       .refine sr (mq ?_);refine aq (nt (aA (br (ba (aW ?_)))));obtain rfl:=hR _ h;exact ra
       .refine bf (aR (tn (ab ?_)));obtain⟨X,F,h⟩:=aa h;refine jb (bu rfl F) ?_;refine mq (nl ?_);exact jz ((),X) h [0]
      .refine xa ?_;exact jz ((),()) h [0]
     .refine ak (sr (fl uv ?_));refine lo FU ?_;refine ol QQ ?_;refine jb (ml rfl) ?_;refine nt (ci h (λh=>?_) (λh=>?_))
      .refine sr (cq (nt (rx ?_)));cases h;exact ra
      .refine sk (du (Z:=Unit) (α:=Unit) (λu y=>[]) (λu y=>[]) (λe=>e=r) h (λe h=>Option.some.inj h) (λK hR h=>?_) (λu y h=>?_))
       .refine sr (fl uv ?_);refine lo FU ?_;refine ol QQ ?_;refine eG rfl ?_;refine nt (aj (aE (λl c=>[(1,Pt b1),(60,Rs bb a0.2.2.2.2.2),(61,I (a0.2.2.2.2.2.length:Int)),(62,I c)]) (λl c=>[.obj b1 26 (.rep ap a0)]) (eY k a0) k () 0 (λ_=>rfl) h (SE.fin [0] ⟨rfl,rfl,rfl,rfl,trivial⟩ rfl) (λn l c h=>?_)));unfold eY at h;refine sr (jb (bH rfl) ?_);refine nt (ak (ci h (λh=>?_) (λh=>?_)))
        .refine sk (ak (aj (sr ?_)));obtain⟨U,E,h⟩:=aa h;refine jb (aY (t:=bb) rfl QQ tG E) ?_;refine ja (au (t:=bb) rfl tG rfl) ?_;refine aX rfl rfl rfl (bo rfl DF Lr) trivial λUo=>?_;refine aP rfl rfl (aM rfl tG rfl rfl rfl) ⟨rfl,rfl,trivial⟩ ?_;refine nt (sr (fr 1 ?_));refine lo im ?_;refine fr 1 ?_;refine lo tG ?_;obtain⟨gw,M,h⟩:=aa h;refine jb (av [.tmp 66,.tmp 67] rfl rfl SI rfl (pQ k a0 U gw M)) ?_;refine aq (nt (sr ?_));refine mq ?_;refine jb (eQ rfl) ?_;refine nt (cn h (λh=>?_) (λh=>?_))
         .refine sr (mq ?_);refine aq (nt (aA (br (ba (aW ?_)))));obtain rfl:=hR _ h;exact ra
         .refine bf (aR (tn (ab ?_)));obtain⟨Q,D,h⟩:=aa h;refine jb (bu rfl D) ?_;refine mq (nl ?_);exact jz ((),Q) h [1]
        .refine xa ?_;exact jz ((),()) h []
       .refine sr (cq (nt (aA ?_)));cases h;exact ra
def cD(k:Nat)(a0:ae)(a1:Int):Nat->((List Int)×Int)->Option (List Int)
 |0,_=>none
 |n+1,y5=>
  if y5.2 < 5 then((((cK (0≤y5.2/\y5.2 < 5)).bind λ_=>
  (eU k a1 y5.2).bind λe=>
  if e=true then((cK (0≤y5.2/\y5.2 < 5)).bind λ_=>
  some (List.set (List.set y5.1 (Int.toNat y5.2) (-1:Int)) (Int.toNat y5.2) a0.2.1)) else(some (List.set y5.1 (Int.toNat y5.2) (-1:Int)))):Option ((List Int))).bind λx7=>
  (ck (y5.2+1)).bind λc=>
  cD k a0 a1 n (x7,c)) else(some y5.1)
def eM(k:Nat)(a0:ae)(a1:Int):Option (List Int):=
 ((cD k a0 a1 k ([0,0,0,0,0],0)):Option ((List Int))).bind λx3=>
 some x3
theorem pM{M:Md Tryz.prog}{bm:Nat}{c0 c1 c2 c3 c4 c5:Value}(hK:Kn M bm 0 [c0,c1,c2,c3,c4,c5])(k:Nat)(a0:ae)(a1:Int)(r:(List Int))(h:eM k a0 a1=some r):
 bW M 78 [.rep (.mo (Pv bm) [c0,c1,c2,c3,c4,c5] ap) a0,.eq (.int .u8 a1)] [] (λ_:Unit=>(bI [.rep Tr r],[])):=by
 unfold eM at h
 replace h:=bi h
 refine bW.of 24 Tryz.func78 rfl Tryz.ntmps78 rfl λS w0=>?_
 refine sr ?_
 refine aX rfl rfl rfl (bo rfl IZ Lp) trivial λb1=>?_
 refine nt ?_
 refine sr ?_
 refine aX rfl rfl rfl (bo rfl IZ Lp) trivial λb2=>?_
 refine nt ?_
 refine aG (Z:=Unit) (α:=(List Int)) (λz4 x3=>[(4,Pt b1),(5,Pt b2)]) (λz4 x3=>[.obj b1 78 (.rep Tr [0,0,0,0,0]),.obj b2 78 (.rep Tr x3)]) h (λK h=>?_) (λz4 x3 h=>?_)
 .
  refine sr (eG rfl ?_);refine nt (aj (aE (λz6 y5=>[(0,.rep (.mo (Pv bm) [c0,c1,c2,c3,c4,c5] ap) a0),(1,.eq (.int .u8 a1)),(4,Pt b1),(5,Pt b2),(7,I y5.2)]) (λz6 y5=>[.obj b1 78 (.rep Tr [0,0,0,0,0]),.obj b2 78 (.rep Tr y5.1)]) (cD k a0 a1) k () ([0,0,0,0,0],0) (λ_=>rfl) h (SE.fin [1,0] ⟨rfl,rfl,rfl,rfl,rfl,trivial⟩ rfl) (λn z6 y5 h=>?_)));unfold cD at h;refine sr (jb (bH rfl) ?_);refine nt (ak (ci h (λh=>?_) (λh=>?_)))
  .refine sk (aG (Z:=Unit) (α:=(List Int)) (λz8 x7=>[(0,.rep (.mo (Pv bm) [c0,c1,c2,c3,c4,c5] ap) a0),(1,.eq (.int .u8 a1)),(4,Pt b1),(5,Pt b2),(7,I y5.2)]) (λz8 x7=>[.obj b1 78 (.rep Tr [0,0,0,0,0]),.obj b2 78 (.rep Tr x7)]) h (λK h=>?_) (λz8 x7 h=>?_))
   .refine aj (sr (mq ?_));refine aq (nt (sr ?_));refine mq ?_;obtain⟨u9,e,h⟩:=aa h;refine jb (dN rfl BD cL (am e).1 (am e).2) ?_;refine fr 1 ?_;refine aP rfl rfl (gq (t:=Ti) (off:=0) (i:=y5.2) (N:=5) rfl cL .int rfl rfl rfl rfl (am e).1 (am e).2 rfl) ⟨rfl,rfl,trivial⟩ ?_;refine nt (sr ?_);iterate 2 refine mq ?_
    obtain⟨u,l,h⟩:=aa h;refine jb (av [.tmp 12,.tmp 13] rfl rfl HY rfl (gu k a1 y5.2 u l)) ?_;refine nt (cv h (λh=>?_) (λh=>?_))
    .refine ab ?_;iterate 2 refine mq ?_
     refine ja (kY rfl) ?_;refine ja (gr rfl gJ) ?_;refine ja (io 1 false rfl Bj rfl rfl) ?_;refine ja (jf (t:=Ti) rfl cL (hK.sub 1 1 rfl (le_of_ble_eq_true rfl)) rfl rfl) ?_;obtain⟨x,c,h⟩:=aa h;refine jb (dN rfl BD cL (am c).1 (am c).2) ?_;refine aP rfl rfl (gq (t:=Ti) (off:=0) (i:=y5.2) (N:=5) rfl cL .int rfl rfl rfl rfl (am c).1 (am c).2 rfl) ⟨rfl,rfl,trivial⟩ ?_;refine aC (bn ?_);exact jz ((),List.set (List.set y5.1 (Int.toNat y5.2) (-1:Int)) (Int.toNat y5.2) a0.2.1) h [1,0]
    .refine bf (bn ?_);exact jz ((),List.set y5.1 (Int.toNat y5.2) (-1:Int)) h [1,0]
   .refine ab ?_;obtain⟨s,j,h⟩:=aa h;refine jb (bu rfl j) ?_;refine mq (nl ?_);exact jz ((),(x7,s)) h [0,1]
  .refine xa ?_;exact jz ((),y5.1) h [0,1]
 .
  refine sr (fr 1 ?_);refine lo iY ?_;refine fr 1 ?_;refine aP rfl rfl (aM rfl iY rfl rfl rfl) ⟨rfl,rfl,trivial⟩ ?_;refine nt (aA ?_);obtain rfl:=Option.some.inj h;exact aO () [.rep Tr x3] 0 ⟨⟨_,_,_,_,_,rfl,(.head _),iY,(tj),rfl⟩,trivial⟩ rfl
def dc(k:Nat)(a0:(List Int))(a1:Int):Nat->Int->Option (Except Int Unit)
 |0,_=>none
 |n+1,y3=>
  if y3 < (a0.length:Int) then((aQ a0 y3).bind λx5=>
  if a1=x5 then(some (.error y3)) else((ck (y3+1)).bind λx6=>
  dc k a0 a1 n x6)) else(some (.ok ()))
def f7(k:Nat)(a0:(List Int))(a1:Int):Option Int:=
 bE (α:=Unit) (dc k a0 a1 k 0) (some) λ_=>
 some (-1:Int)
theorem mh(k:Nat)(a0:(List Int))(a1:Int)(r:Int)(h:f7 k a0 a1=some r):
 dH Tryz.prog 80 [.rep Tl a0,I a1] [] (λ_:Unit=>(bI [I r],[])):=by
 unfold f7 at h
 replace h:=bi h
 refine dH.of 19 Tryz.func80 rfl Tryz.ntmps80 rfl λS w0=>?_
 refine sr ?_
 refine cq ?_
 refine nt ?_
 refine du (Z:=Unit) (α:=Unit) (λz2 x1=>[]) (λz2 x1=>[]) (λe=>e=r) h (λe h=>Option.some.inj h) (λK hR h=>?_) (λz2 x1 h=>?_)
 .
  refine sr (mq ?_);refine ol iv ?_;refine eG rfl ?_;refine nt (aj (aE (λz4 y3=>[(0,.rep Tl a0),(1,I a1),(7,I (a0.length:Int)),(8,I y3)]) (λz4 y3=>[]) (dc k a0 a1) k () 0 (λ_=>rfl) h (SE.fin [] ⟨rfl,rfl,rfl,rfl,trivial⟩ rfl) (λn z4 y3 h=>?_)));unfold dc at h;refine sr (jb (bH rfl) ?_);refine nt (ak (ci h (λh=>?_) (λh=>?_)))
  .refine sk (ak (aj (sr (mq ?_))));refine aq (nt (sr ?_));iterate 3 refine mq ?_
   obtain⟨x5,j,h⟩:=aa h;refine jb (aY (t:=Ti) rfl iv cL j) ?_;refine ja (au (t:=Ti) rfl cL rfl) ?_;refine jb (i8 rfl) ?_;refine nt (ci h (λh=>?_) (λh=>?_))
   .refine sr (mq ?_);refine aq (nt (aA (br (ba (aW ?_)))));obtain rfl:=hR _ h;exact ra
   .refine bf (aR (tn (ab ?_)));obtain⟨x6,c,h⟩:=aa h;refine jb (bu rfl c) ?_;refine mq (nl ?_);exact jz ((),x6) h []
  .refine xa ?_;exact jz ((),()) h []
 .
  refine sr (cq (nt (aA ?_)));cases h;exact ra
def kM(k:Nat)(a0:Int):Option Bool:=
 some (!decide (a0=a0))
theorem qT(k:Nat)(a0:Int)(r:Bool)(h:kM k a0=some r):
 dH Tryz.prog 153 [I a0] [] (λ_:Unit=>(bI [.eq (.bool r)],[])):=by
 unfold kM at h
 replace h:=bi h
 refine dH.of 6 Tryz.func153 rfl Tryz.ntmps153 rfl λS w0=>?_
 refine sr ?_
 refine cq ?_
 refine nt ?_
 refine sr ?_
 iterate 2 refine mq ?_
 refine jb (eQ rfl) ?_
 refine aq ?_
 refine nt ?_
 refine aA ?_
 cases h
 exact ra
def oh(k:Nat)(a0:Int)(a1:Int):Option Bool:=
 (((kM k a0).bind λr3=>
 if r3=true then((kM k a1).bind λr4=>
 if¬(r4=true) then(some true) else(some (decide (a0 < a1)))) else(some (decide (a0 < a1)))):Option (Bool)).bind λx1=>
 some x1
theorem zE(k:Nat)(a0:Int)(a1:Int)(r:Bool)(h:oh k a0 a1=some r):
 dH Tryz.prog 143 [I a0,I a1] [] (λ_:Unit=>(bI [.eq (.bool r)],[])):=by
 unfold oh at h
 replace h:=bi h
 refine dH.of 17 Tryz.func143 rfl Tryz.ntmps143 rfl λS w0=>?_
 refine sr ?_
 refine cq ?_
 refine nt ?_
 refine aG (Z:=Unit) (α:=Bool) (λz2 x1=>[(4,.eq (.bool x1))]) (λz2 x1=>[]) h (λK h=>?_) (λz2 x1 h=>?_)
 .
  refine ab (mq ?_);obtain⟨r3,e,h⟩:=aa h;refine ja (av [.tmp 5] rfl rfl MJ rfl (qT k a0 r3 e)) ?_;refine mq ?_;refine cT (s:=7) rfl (λhb=>?_) (λhb=>?_)
  .replace h:=fR (L9 hb) h;refine gm ?_;obtain⟨r4,c,h⟩:=aa h;refine ga (av [.tmp 8] rfl rfl MJ rfl (qT k a1 r4 c)) ?_;refine ga (iK rfl) ?_;refine pt ?_;refine mq ?_;refine cT (s:=12) rfl (λhb=>?_) (λhb=>?_)
   .replace h:=fR (AS hb) h;iterate 3 refine gn ?_
    refine pt ?_;refine aq (nl ?_);exact jz ((),true) h []
   .replace h:=dr (t7 hb) h;refine gm ?_;refine gm ?_;refine gb (bH rfl) ?_;refine pf ?_;refine aq (nl ?_);exact jz ((),decide (a0 < a1)) h []
  .replace h:=dr (Me hb) h;iterate 3 refine gn ?_
   refine pf ?_;refine mq ?_;refine gm ?_;refine gm ?_;refine gb (bH rfl) ?_;refine pf ?_;refine aq (nl ?_);exact jz ((),decide (a0 < a1)) h []
 .
  refine aA ?_;cases h;exact ra
def bB(k:Nat)(a1:Int):Nat->((List Int)×Int)->Option (List Int)
 |0,_=>none
 |n+1,y6=>
  ((if a1 < y6.2 then((aQ y6.1 y6.2).bind λu=>
  (ck (y6.2 - 1)).bind λs=>
  (aQ y6.1 s).bind λr=>
  (oh k u r).bind λx=>
  some x) else(some false)):Option (Bool)).bind λx8=>
  if x8=true then((ck (y6.2 - 1)).bind λe=>
  (ck (y6.2 - 1)).bind λl=>
  (aQ y6.1 l).bind λc=>
  (aQ y6.1 y6.2).bind λj=>
  (aQ y6.1 y6.2).bind λD=>
  (aQ (List.set y6.1 (Int.toNat y6.2) c) e).bind λy=>
  (ck (y6.2 - 1)).bind λh=>
  bB k a1 n (List.set (List.set y6.1 (Int.toNat y6.2) c) (Int.toNat e) j,h)) else(some y6.1)
def aZ(k:Nat)(a1:Int)(a2:Int):Nat->((List Int)×Int)->Option (List Int)
 |0,_=>none
 |n+1,y2=>
  if y2.2 < a2 then(((bB k a1 k (y2.1,y2.2)):Option ((List Int))).bind λx4=>
  (ck (y2.2+1)).bind λc=>
  aZ k a1 a2 n (x4,c)) else(some y2.1)
def bP(k:Nat)(a0:(List Int))(a1:Int)(a2:Int):Option (List Int):=
 (ck (a1+1)).bind λx1=>
 aZ k a1 a2 k (a0,x1)
theorem iZ(k:Nat)(a0:(List Int))(c:Value)(a1:Int)(a2:Int)(r:(List Int))(h:bP k a0 a1 a2=some r):
 dH Tryz.prog 137 [.eq c,I a1,I a2] [.sl c 3 Ti a0] (λ_:Unit=>(bI [],[.sl c 3 Ti r])):=by
 unfold bP at h
 replace h:=bi h
 refine dH.of 49 Tryz.func137 rfl Tryz.ntmps137 rfl λS w0=>?_
 refine sr ?_
 refine mq ?_
 obtain⟨x1,UE,h⟩:=aa h
 refine jb (bu rfl UE) ?_
 refine aq ?_
 refine nt ?_
 refine aj ?_
 refine aE (λz3 y2=>[(0,.eq c),(1,I a1),(2,I a2),(6,I y2.2)]) (λz3 y2=>[.sl c 3 Ti y2.1]) (aZ k a1 a2) k () (a0,x1) (λ_=>rfl) h (SE.fin [0] ⟨rfl,rfl,rfl,rfl,trivial⟩ rfl) (λn z3 y2 h=>?_)
 unfold aZ at h
 refine ak ?_
 refine sr ?_
 iterate 2 refine mq ?_
 refine jb (bH rfl) ?_
 refine nt ?_
 refine ci h (λh=>?_) (λh=>?_)
 .
  refine sk (aG (Z:=Unit) (α:=(List Int)) (λz5 x4=>[(0,.eq c),(1,I a1),(2,I a2),(6,I y2.2)]) (λz5 x4=>[.sl c 3 Ti x4]) h (λK h=>?_) (λz5 x4 h=>?_))
  .refine aj (sr (mq ?_));refine aq (nt (aj ?_));refine aE (λz7 y6=>[(0,.eq c),(1,I a1),(2,I a2),(6,I y2.2),(7,I y6.2)]) (λz7 y6=>[.sl c 3 Ti y6.1]) (bB k a1) k () (y2.1,y2.2) (λ_=>rfl) h (SE.fin [0] ⟨rfl,rfl,rfl,rfl,rfl,trivial⟩ rfl) (λn z7 y6 h=>?_);unfold bB at h;refine ak (aG (Z:=Unit) (α:=Bool) (λz9 x8=>[(0,.eq c),(1,I a1),(2,I a2),(6,I y2.2),(7,I y6.2),(30,.eq (.bool x8))]) (λz9 x8=>[.sl c 3 Ti y6.1]) h (λK h=>?_) (λz9 x8 h=>?_))
   .refine cP ?_;refine dm ?_;refine dm ?_;refine db (ml rfl) ?_;refine ya rfl rfl rfl (bG rfl) ⟨rfl,trivial⟩ (λhb=>?_) (λhb=>?_)
    .replace h:=fR (wu hb) h;refine dU rfl rfl rfl rfl rfl (bG rfl) ⟨rfl,rfl,trivial⟩ ?_;refine dU rfl rfl rfl rfl rfl (bG rfl) ⟨rfl,rfl,trivial⟩ ?_;obtain⟨Ut,x,h⟩:=aa h;refine kE 0 rfl rfl rfl rfl rfl rfl (bX (t:=Ti) rfl iv cL x) ⟨rfl,rfl,rfl,trivial⟩ ?_;refine kE 0 rfl rfl rfl rfl rfl rfl (f8 (i:=Int.toNat y6.2) (off:=0) rfl cL (λ_=>rfl) rfl (dw x).2.2 rfl) ⟨rfl,rfl,trivial⟩ ?_;refine dU rfl rfl rfl rfl rfl (bG rfl) ⟨rfl,rfl,trivial⟩ ?_;refine dU rfl rfl rfl rfl rfl (bG rfl) ⟨rfl,rfl,trivial⟩ ?_;obtain⟨Us,qt,h⟩:=aa h;refine dU rfl rfl rfl rfl rfl (eF rfl qt) ⟨rfl,rfl,rfl,trivial⟩ ?_;obtain⟨Ur,u,h⟩:=aa h;refine kE 0 rfl rfl rfl rfl rfl rfl (bX (t:=Ti) rfl iv cL u) ⟨rfl,rfl,rfl,trivial⟩ ?_;refine kE 0 rfl rfl rfl rfl rfl rfl (f8 (i:=Int.toNat Us) (off:=0) rfl cL (λ_=>rfl) rfl (dw u).2.2 rfl) ⟨rfl,rfl,trivial⟩ ?_;refine df ew ?_;obtain⟨F,zz,h⟩:=aa h;refine gb (av [.tmp 23,.tmp 28] rfl rfl QC rfl (zE k Ut Ur F zz)) ?_;refine pt (nl ?_);exact jz ((),F) h [0]
    .replace h:=dr (wv hb) h;iterate 9 refine dg ?_
     refine df ew ?_;refine gn ?_;refine pf (nl ?_);exact jz ((),false) h [0]
   .refine cv h (λh=>?_) (λh=>?_)
    .refine sk (ak (aj (rj ?_)));refine bN rfl rfl rfl (bG rfl) ⟨rfl,trivial⟩ ?_;refine bN rfl rfl rfl (bG rfl) ⟨rfl,trivial⟩ ?_;refine bN rfl rfl rfl (bG rfl) ⟨rfl,trivial⟩ ?_;refine bN rfl rfl rfl (bG rfl) ⟨rfl,trivial⟩ ?_;obtain⟨y,mw,h⟩:=aa h;refine bN rfl rfl rfl (eF rfl mw) ⟨rfl,rfl,trivial⟩ ?_;refine bN rfl rfl rfl (bG rfl) ⟨rfl,trivial⟩ ?_;refine bN rfl rfl rfl (bG rfl) ⟨rfl,trivial⟩ ?_;obtain⟨Up,mc,h⟩:=aa h;refine bN rfl rfl rfl (eF rfl mc) ⟨rfl,rfl,trivial⟩ ?_;obtain⟨E,s,h⟩:=aa h;refine gU 0 rfl rfl rfl rfl (bX (t:=Ti) rfl iv cL s) ⟨rfl,rfl,trivial⟩ ?_;refine gU 0 rfl rfl rfl rfl (f8 (i:=Int.toNat Up) (off:=0) rfl cL (λ_=>rfl) rfl (dw s).2.2 rfl) ⟨rfl,trivial⟩ ?_;refine bN rfl rfl rfl (bG rfl) ⟨rfl,trivial⟩ ?_;refine bN rfl rfl rfl (bG rfl) ⟨rfl,trivial⟩ ?_;obtain⟨D,l,h⟩:=aa h;refine gU 0 rfl rfl rfl rfl (bX (t:=Ti) rfl iv cL l) ⟨rfl,rfl,trivial⟩ ?_;refine gU 0 rfl rfl rfl rfl (f8 (i:=Int.toNat y6.2) (off:=0) rfl cL (λ_=>rfl) rfl (dw l).2.2 rfl) ⟨rfl,trivial⟩ ?_;obtain⟨UM,j,h⟩:=aa h;refine gU 0 rfl rfl rfl rfl (bX (t:=Ti) rfl iv cL j) ⟨rfl,rfl,trivial⟩ ?_;refine uS 15 [true,true,false,false,false,true,true,true,true,true,true,true,true,true,true] [48] [] [] rfl (by kernel_rfl) (by kernel_rfl) (by kernel_rfl) ew (λvs hv hB=>?_);obtain⟨w0,U0,rfl,UD⟩:=ax hv;obtain⟨w1,UZ,rfl,UC⟩:=ax UD;obtain⟨w2,UY,rfl,UB⟩:=ax UC;obtain⟨w3,UX,rfl,UA⟩:=ax UB;obtain⟨w4,UW,rfl,Uz⟩:=ax UA;obtain⟨w5,UV,rfl,Uy⟩:=ax Uz;obtain⟨w6,UU,rfl,Ux⟩:=ax Uy;obtain⟨w7,UT,rfl,Uw⟩:=ax Ux;obtain⟨w8,US,rfl,Uu⟩:=ax Uw;obtain⟨w9,UK,rfl,X⟩:=ax Uu;obtain⟨UR,UJ,rfl,U⟩:=ax X;obtain⟨UQ,UI,rfl,Q⟩:=ax U;obtain⟨UP,UH,rfl,O⟩:=ax Q;obtain⟨UO,UG,rfl,M⟩:=ax O;obtain⟨UN,UF,rfl,J⟩:=ax M;obtain rfl:=qK J;refine⟨[0],[.sl c 3 Ti y6.1],by kernel_rfl,by decide,?_⟩;refine sH rfl rfl (fD (i:=Int.toNat y6.2) rfl cL rfl (lR j) rfl .int rfl) ⟨rfl,rfl,trivial⟩ (by kernel_rfl) ?_;obtain⟨UL,e,h⟩:=aa h;refine uO rfl rfl rfl rfl (bX (t:=Ti) rfl iv cL e) ⟨rfl,rfl,trivial⟩ (by kernel_rfl) ?_;refine sH rfl rfl (fD (i:=Int.toNat y) rfl cL rfl (lR e) rfl .int rfl) ⟨rfl,rfl,trivial⟩ (by kernel_rfl) ?_;refine xX ?_;refine bU (SE.fin (Γ':=[(0,.eq c),(1,I a1),(2,I a2),(6,I y2.2),(7,I y6.2)]) (Δ':=[.sl c 3 Ti (List.set (List.set y6.1 (Int.toNat y6.2) E) (Int.toNat y) D)]) [0] ⟨rfl,rfl,rfl,rfl,rfl,trivial⟩ rfl) ?_;refine aR (tn (ab (mq ?_)));obtain⟨Uo,gw,h⟩:=aa h;refine jb (eF rfl gw) ?_;refine aq (nl ?_);exact jz ((),(List.set (List.set y6.1 (Int.toNat y6.2) E) (Int.toNat y) D,Uo)) h [0]
    .refine fV (bR (bR (c8 (bn ?_))));exact jz ((),y6.1) h [0]
  .refine ab (mq ?_);obtain⟨Un,Y,h⟩:=aa h;refine jb (bu rfl Y) ?_;refine aq (nl ?_);exact jz ((),(x4,Un)) h [0]
 .
  refine fV (bR (bR (c8 (jV ?_))));cases h;exact aO () [] 1 trivial rfl
def j9(k:Nat)(a0:Int):Option Int:=
 ((if 4294967296≤a0 then(some (g7 .u64 a0 32,32)) else(some (a0,0))):Option (Int×Int)).bind λx1=>
 ((if 65536≤x1.1 then((ck (x1.2+16)).bind λx5=>
 some (g7 .u64 x1.1 16,x5)) else(some (x1.1,x1.2))):Option (Int×Int)).bind λx3=>
 ((if 256≤x3.1 then((ck (x3.2+8)).bind λx8=>
 some (g7 .u64 x3.1 8,x8)) else(some (x3.1,x3.2))):Option (Int×Int)).bind λx6=>
 (Bd KG (IntKind.u8.wrap x6.1)).bind λx9=>
 (ck (x9.toNat:Int)).bind λe=>
 (ck (x6.2+e)).bind λc=>
 some c
theorem pU(k:Nat)(a0:Int)(r:Int)(h:j9 k a0=some r):
 dH Tryz.prog 147 [.eq (.int .u64 a0)] [] (λ_:Unit=>(bI [I r],[])):=by
 unfold j9 at h
 replace h:=bi h
 refine dH.of 25 Tryz.func147 rfl Tryz.ntmps147 rfl λS w0=>?_
 refine sr ?_
 refine cq ?_
 refine nt ?_
 refine aG (Z:=Unit) (α:=Int×Int) (λz2 x1=>[(0,.eq (.int .u64 x1.1)),(2,I x1.2)]) (λz2 x1=>[]) h (λK h=>?_) (λz2 x1 h=>?_)
 .
  refine sr (mq ?_);refine jb (i7 rfl) ?_;refine nt (ci h (λh=>?_) (λh=>?_))
  .refine sr (mq ?_);refine bY rfl (t6 rfl (by decide)) ⟨rfl,rfl,trivial⟩ ?_;refine aq (nt (ab ?_));refine cq (nl ?_);exact jz ((),(g7 .u64 a0 32,32)) h []
  .refine bf (an ?_);exact jz ((),(a0,0)) h []
 .
  refine aG (Z:=Unit) (α:=Int×Int) (λz4 x3=>[(0,.eq (.int .u64 x3.1)),(2,I x3.2)]) (λz4 x3=>[]) h (λK h=>?_) (λz4 x3 h=>?_)
  .refine sr (mq ?_);refine jb (i7 rfl) ?_;refine nt (ci h (λh=>?_) (λh=>?_))
   .refine sr (mq ?_);refine bY rfl (t6 rfl (by decide)) ⟨rfl,rfl,trivial⟩ ?_;refine aq (nt (ab ?_));refine mq ?_;obtain⟨x5,n,h⟩:=aa h;refine jb (bu rfl n) ?_;refine aq (nl ?_);exact jz ((),(g7 .u64 x1.1 16,x5)) h []
   .refine bf (an ?_);exact jz ((),(x1.1,x1.2)) h []
  .refine aG (Z:=Unit) (α:=Int×Int) (λz7 x6=>[(0,.eq (.int .u64 x6.1)),(2,I x6.2)]) (λz7 x6=>[]) h (λK h=>?_) (λz7 x6 h=>?_)
   .refine sr (mq ?_);refine jb (i7 rfl) ?_;refine nt (ci h (λh=>?_) (λh=>?_))
    .refine sr (mq ?_);refine bY rfl (t6 rfl (by decide)) ⟨rfl,rfl,trivial⟩ ?_;refine aq (nt (ab ?_));refine mq ?_;obtain⟨x8,l,h⟩:=aa h;refine jb (bu rfl l) ?_;refine aq (nl ?_);exact jz ((),(g7 .u64 x3.1 8,x8)) h []
    .refine bf (an ?_);exact jz ((),(x3.1,x3.2)) h []
   .refine sr ?_;iterate 2 refine mq ?_
    refine ja (rK rfl Ri U5) ?_;obtain⟨x9,j,h⟩:=aa h;refine ja (yN rfl U9 j) ?_;obtain⟨u,e,h⟩:=aa h;refine ja (yO rfl U5 U3 e) ?_;obtain⟨s,c,h⟩:=aa h;refine jb (bu rfl c) ?_;refine aq (nt (aA ?_));cases h;exact ra
def oY(k:Nat)(a0:Int):Option Int:=
 (j9 k a0).bind λr1=>
 some r1
theorem Bv(k:Nat)(a0:Int)(r:Int)(h:oY k a0=some r):
 dH Tryz.prog 136 [.eq (.int .u64 a0)] [] (λ_:Unit=>(bI [I r],[])):=by
 unfold oY at h
 replace h:=bi h
 refine dH.of 8 Tryz.func136 rfl Tryz.ntmps136 rfl λS w0=>?_
 refine sr ?_
 refine cq ?_
 refine nt ?_
 refine ak ?_
 refine IM (λhb=>(by cases hb)) (λhb=>?_)
 refine sk ?_
 refine sr ?_
 refine mq ?_
 obtain⟨r1,c,h⟩:=aa h
 have e:=pU k a0 r1 c
 refine ja (av [.tmp 6] rfl rfl QB rfl e) ?_
 refine aq ?_
 refine nt ?_
 refine aA ?_
 cases h
 exact ra
def cy(k:Nat)(a0:(List Int))(a1:Int)(a2:Int)(a3:Int):Nat->Unit->Option (List Int)
 |0,_=>none
 |n+1,y1=>
  (ck (a2 - a1)).bind λx3=>
  if x3≤12 then((bP k a0 a1 a2).bind λr4=>
  some r4) else(if a3=0 then(none) else(none))
def cR(k:Nat)(a0:(List Int))(a1:Int)(a2:Int)(a3:Int):Option (List Int):=
 cy k a0 a1 a2 a3 k ()
theorem lD(k:Nat)(a0:(List Int))(c:Value)(a1:Int)(a2:Int)(a3:Int)(r:(List Int))(h:cR k a0 a1 a2 a3=some r):
 dH Tryz.prog 135 [.eq c,I a1,I a2,I a3] [.sl c 3 Ti a0] (λ_:Unit=>(bI [],[.sl c 3 Ti r])):=by
 unfold cR at h
 replace h:=bi h
 refine dH.of 134 Tryz.func135 rfl Tryz.ntmps135 rfl λS w0=>?_
 refine sr ?_
 refine cq ?_
 refine nt ?_
 refine sr ?_
 refine cq ?_
 refine nt ?_
 refine aj ?_
 refine aE (λz2 y1=>[(0,.eq c),(1,I a1),(2,I a2),(3,I a3),(8,.eq (.bool true)),(9,.eq (.bool true))]) (λz2 y1=>[.sl c 3 Ti a0]) (cy k a0 a1 a2 a3) k () () (λ_=>rfl) h (SE.fin [0] ⟨rfl,rfl,rfl,rfl,rfl,rfl,trivial⟩ rfl) (λn z2 y1 h=>?_)
 unfold cy at h
 refine aj ?_
 refine sr ?_
 iterate 2 refine mq ?_
 obtain⟨x3,e,h⟩:=aa h
 refine jb (eF rfl e) ?_
 refine aq ?_
 refine nt ?_
 refine ak ?_
 refine sr ?_
 refine mq ?_
 refine jb (BX rfl) ?_
 refine nt ?_
 refine ci h (λh=>?_) (λh=>?_)
 .
  refine sr ?_;iterate 3 refine mq ?_
  obtain⟨r4,j,h⟩:=aa h;refine kc (av [.tmp 24,.tmp 25,.tmp 26] rfl rfl QD rfl (iZ k a0 c a1 a2 r4 j)) ?_;refine nt (rx (ba (aW (ba ?_))));cases h;exact aO () [] 1 trivial rfl
 .
  refine sk (ak (sr (mq ?_)));refine jb (i8 rfl) ?_;refine nt (ci h (λh=>?_) (λh=>?_))
  .cases h
  .cases h
def fL(k:Nat)(a0:(List Int)):Option (List Int):=
 (oY k (IntKind.u64.wrap (a0.length:Int))).bind λr1=>
 (cR k a0 0 (a0.length:Int) r1).bind λr2=>
 some r2
theorem sW(k:Nat)(a0:(List Int))(c:Value)(r:(List Int))(h:fL k a0=some r):
 dH Tryz.prog 122 [.eq c] [.sl c 3 Ti a0] (λ_:Unit=>(bI [],[.sl c 3 Ti r])):=by
 unfold fL at h
 replace h:=bi h
 refine dH.of 11 Tryz.func122 rfl Tryz.ntmps122 rfl λS w0=>?_
 refine sr ?_
 refine mq ?_
 refine ka (kH rfl rfl iv) ?_
 refine aq ?_
 refine nt ?_
 refine ab ?_
 iterate 3 refine mq ?_
 refine ja (rK rfl U3 TD) ?_
 obtain⟨r1,j,h⟩:=aa h
 have n:=Bv k (IntKind.u64.wrap (a0.length:Int)) r1 j
 refine ja (av [.tmp 8] rfl rfl QE rfl n) ?_
 obtain⟨r2,e,h⟩:=aa h
 have l:=lD k a0 c 0 (a0.length:Int) r1 r2 e
 refine l7 rfl rfl rfl (av [.tmp 5,.const (.int .i64 (0)),.tmp 6,.tmp 9] rfl rfl QF rfl l) ⟨rfl,rfl,rfl,rfl,trivial⟩ ?_
 refine aC ?_
 refine jV ?_
 cases h
 exact aO () [] 1 trivial rfl
def cE(k:Nat)(a1:Int)(x3:(List (List Int))):Nat->Int->Option (Except (Int ⊕ (List Int)) Unit)
 |0,_=>none
 |n+1,y4=>
  if y4 < (x3.length:Int) then((aQ x3 y4).bind λx6=>
  (f7 k x6 a1).bind λr7=>
  if 0≤r7 then(((if 0 < r7 then((ck (r7 - 1)).bind λs=>
  (aQ x6 s).bind λe=>
  (cK (cf (length ([]:(List Int))+length [e]))).bind λ_=>
  some (([]:(List Int))++[e])) else(some ([]:(List Int)))):Option ((List Int))).bind λx8=>
  (((ck (r7+1)).bind λl=>
  if l < (x6.length:Int) then((ck (r7+1)).bind λj=>
  (aQ x6 j).bind λc=>
  (cK (cf (length x8+length [c]))).bind λ_=>
  some (x8++[c])) else(some x8)):Option ((List Int))).bind λr=>
  (fL k r).bind λu=>
  some (.error (Sum.inr u:(Int ⊕ (List Int))))) else((ck (y4+1)).bind λh=>
  cE k a1 x3 n h)) else(some (.ok ()))
def dW(k:Nat):Nat->ae->Int->Int->Option ((Int ⊕ (List Int)))
 |0,_,_,_=>none
 |m0+1,a0,a1,a2=>
  bE (α:=Unit) ((aQ a0.2.2.2.2.1 a2).bind λx3=>
  cE k a1 x3 k 0) (some) λ_=>
  ((if 0 < a2 then((ck (a2 - 1)).bind λh=>
  ((dW k m0) a0 a1 h).bind λc=>
  if JE c=true then((ck (1+(PI c))).bind λe=>
  some e) else(some 1)) else(some 1)):Option (Int)).bind λj=>
  some (Sum.inl j:(Int ⊕ (List Int)))
theorem lb{M:Md Tryz.prog}{bm:Nat}{c0 c1 c2 c3 c4 c5:Value}(hK:Kn M bm 0 [c0,c1,c2,c3,c4,c5])(k:Nat):
 ∀(n:Nat) (a0:ae) (a1:Int) (a2:Int) (r:(Int ⊕ (List Int))),dW k n a0 a1 a2=some r->bW M 99 [.rep (.mo (Pv bm) [c0,c1,c2,c3,c4,c5] ap) a0,I a1,I a2] ([]) (λ_:Unit=>(bI [.rep (.pl 158 160 Tl) r],[])):=by
 intro n
 induction n with
 |zero=>intro a0 a1 a2 r h;cases h
 |succ m0 ih=>
  intro a0 a1 a2 r h;rw [dW] at h;replace h:=bi h;refine bW.of 80 Tryz.func99 rfl Tryz.ntmps99 rfl λS w0=>?_;refine sr (cq (nt ?_));refine du (Z:=Unit) (α:=Unit) (λz2 x1=>[(0,.rep (.mo (Pv bm) [c0,c1,c2,c3,c4,c5] ap) a0),(1,I a1),(2,I a2)]) (λz2 x1=>[]) (λe=>e=r) h (λe h=>Option.some.inj h) (λK hR h=>?_) (λz2 x1 h=>?_)
  .refine sr (mq ?_);refine ja (kY rfl) ?_;refine ja (gr rfl gJ) ?_;refine ja (io 1 false rfl eI rfl rfl) ?_;refine ja (jf (t:=(.slice (.slice Tl))) rfl lC (hK.sub 4 1 rfl (le_of_ble_eq_true rfl)) rfl rfl) ?_;refine mq ?_;obtain⟨x3,Ut,h⟩:=aa h;refine jb (aY (t:=(.slice Tl)) rfl Aj yC Ut) ?_;refine ja (au (t:=(.slice Tl)) rfl yC rfl) ?_;refine ol qX ?_;refine eG rfl ?_;refine nt (aj (aE (λz5 y4=>[(0,.rep (.mo (Pv bm) [c0,c1,c2,c3,c4,c5] ap) a0),(1,I a1),(2,I a2),(21,.rep (.slice Tl) x3),(22,I (x3.length:Int)),(23,I y4)]) (λz5 y4=>[]) (cE k a1 x3) k () 0 (λ_=>rfl) h (SE.fin [] ⟨rfl,rfl,rfl,rfl,rfl,rfl,trivial⟩ rfl) (λn z5 y4 h=>?_)));unfold cE at h;refine sr (jb (bH rfl) ?_);refine nt (ak (ci h (λh=>?_) (λh=>?_)))
   .refine sk (ak (aj (sr ?_)));obtain⟨x6,Us,h⟩:=aa h;refine jb (aY (t:=Tl) rfl qX iF Us) ?_;refine ja (au (t:=Tl) rfl iF rfl) ?_;refine aq (nt (sr ?_));iterate 2 refine mq ?_
    obtain⟨r7,Uu,h⟩:=aa h;refine jb (av [.tmp 27,.tmp 28] rfl rfl Qu rfl (mh k x6 a1 r7 Uu)) ?_;refine aq (nt (sr ?_));refine mq ?_;refine jb (i7 rfl) ?_;refine nt (ci h (λh=>?_) (λh=>?_))
    .refine sr (cq (nt ?_));refine aG (Z:=Value) (α:=(List Int)) (λz9 x8=>[(8,.rep Tl x6),(9,I r7),(10,.eq z9)]) (λz9 x8=>[.sl z9 3 Ti x8]) h (λK h=>?_) (λz9 x8 h=>?_)
     .refine sr (mq ?_);refine jb (ml rfl) ?_;refine nt (ci h (λh=>?_) (λh=>?_))
      .refine ab ?_;iterate 3 refine mq ?_
       obtain⟨Uy,U,h⟩:=aa h;refine jb (eF rfl U) ?_;obtain⟨x,Q,h⟩:=aa h;refine jb (aY (t:=Ti) rfl iv cL Q) ?_;refine ja (au (t:=Ti) rfl cL rfl) ?_;refine ja (bg (t:=Ti) [(.tmp 39,_)] [x] rfl rfl dR (.cons rfl .int .nil) rfl rfl) ?_;refine fg (SE.nil 3 Ti) ?_;obtain⟨UA,Y,h⟩:=aa h;refine eK rfl rfl rfl (cN rfl rfl dR (am Y)) ⟨rfl,rfl,trivial⟩ λUo=>?_;refine aq (nl ?_);exact jz (Uo,([]:(List Int))++[x]) h [0]
      .refine bf (an (bU (SE.nil 3 Ti) ?_));exact jz ((.slice none 0 0),([]:(List Int))) h [0]
     .refine aG (Z:=Value) (α:=(List Int)) (λc j=>[(10,.eq c)]) (λc j=>[.sl c 3 Ti j]) h (λK h=>?_) (λc j h=>?_)
      .refine sr (mq ?_);obtain⟨Ux,O,h⟩:=aa h;refine jb (bu rfl O) ?_;refine mq ?_;refine ol iv ?_;refine jb (bH rfl) ?_;refine nt (ci h (λh=>?_) (λh=>?_))
       .refine ab ?_;iterate 3 refine mq ?_
        obtain⟨Uw,J,h⟩:=aa h;refine jb (bu rfl J) ?_;obtain⟨u,F,h⟩:=aa h;refine jb (aY (t:=Ti) rfl iv cL F) ?_;refine ja (au (t:=Ti) rfl cL rfl) ?_;refine ja (bg (t:=Ti) [(.tmp 52,_)] [u] rfl rfl dR (.cons rfl .int .nil) rfl rfl) ?_;obtain⟨Uz,X,h⟩:=aa h;refine eK rfl rfl rfl (cN rfl rfl dR (am X)) ⟨rfl,rfl,trivial⟩ λUn=>?_;refine aq (nl ?_);exact jz (Un,x8++[u]) h [0]
       .refine bf (an ?_);exact jz (z9,x8) h [0]
      .refine sr (mq ?_);obtain⟨Ur,mc,h⟩:=aa h;refine ka (av [.tmp 55] rfl rfl QH rfl (sW k j c Ur mc)) ?_;refine nt (sr (mq ?_));refine fg (jp [10,55,57] ⟨rfl,rfl,rfl,trivial⟩) ?_;refine ja (dY [(0,.tmp 57,_)] rfl PM LY OC (jC ⟨rfl,trivial⟩) rfl) ?_;refine ja (JM (t0:=158) (t:=Ti) rfl TB) ?_;refine aq (nt (aA (br (ba (aW ?_)))));obtain rfl:=hR _ h;exact ra
    .refine bf (aR (tn (ab ?_)));obtain⟨zz,E,h⟩:=aa h;refine jb (bu rfl E) ?_;refine mq (nl ?_);exact jz ((),zz) h []
   .refine xa ?_;exact jz ((),()) h []
  .refine sr (cq (nt ?_));refine aG (Z:=Unit) (α:=Int) (λs l=>[(11,I l)]) (λs l=>[]) h (λK h=>?_) (λs l h=>?_)
   .refine sr (mq ?_);refine jb (ml rfl) ?_;refine nt (ci h (λh=>?_) (λh=>?_))
    .refine sr ?_;iterate 3 refine mq ?_
     obtain⟨qt,D,h⟩:=aa h;refine jb (eF rfl D) ?_;obtain⟨Up,gw,h⟩:=aa h;refine jc (aS [.tmp 64,.tmp 65,.tmp 67] rfl rfl Oj rfl (ih a0 a1 qt Up gw)) ?_;refine bY rfl (BY rfl FP (by decide)) ⟨rfl,trivial⟩ ?_;refine mq ?_;refine xr ?_;refine xr ?_;refine aX rfl rfl rfl (bo rfl E5 MR) trivial λUB=>?_;refine aP rfl rfl (aM rfl MB trivial rfl rfl) ⟨rfl,rfl,trivial⟩ ?_;refine aq (nt (sr ?_));refine mq (nt ?_);refine cv h (λh=>?_) (λh=>?_)
     .refine ab (mq ?_);refine fl CP ?_;refine lo cL ?_;obtain⟨mw,y,h⟩:=aa h;refine jb (bu rfl y) ?_;refine aq (nl ?_);exact jz ((),mw) h []
     .refine bf (an ?_);exact jz ((),1) h []
    .refine bf (an ?_);exact jz ((),1) h []
   .refine sr (mq ?_);refine ja (dY [(0,.tmp 77,_)] rfl PN E5 OD (jC ⟨rfl,trivial⟩) rfl) ?_;refine ja (JP (t1:=160) (t:=Ti) rfl TC) ?_;refine aq (nt (aA ?_));cases h;exact ra
def ii(k:Nat)(a0:MM):Option (List Int):=
 some ([]:(List Int))
theorem pP(k:Nat)(a0:MM)(r:(List Int))(h:ii k a0=some r):
 dH Tryz.prog 171 [.rep Pz a0] [] (λ_:Unit=>(bI [.rep Tl r],[])):=by
 unfold ii at h
 replace h:=bi h
 refine dH.of 3 Tryz.func171 rfl Tryz.ntmps171 rfl λS w0=>?_
 refine sr ?_
 refine bx λb1=>?_
 refine cq ?_
 refine nt ?_
 refine sr ?_
 refine cq ?_
 refine nt ?_
 refine aA ?_
 refine bU (eA (t:=Tl) (x:=([]:(List Int))) 2 rfl .nil rfl rfl) ?_
 cases h
 exact ra
def ig(k:Nat)(a0:MK):Option (List Int):=
 some a0
theorem pK(k:Nat)(a0:MK)(r:(List Int))(h:ig k a0=some r):
 dH Tryz.prog 172 [.rep Py a0] [] (λ_:Unit=>(bI [.rep Tl r],[])):=by
 unfold ig at h
 replace h:=bi h
 refine dH.of 5 Tryz.func172 rfl Tryz.ntmps172 rfl λS w0=>?_
 refine sr ?_
 refine bx λb1=>?_
 refine cq ?_
 refine nt ?_
 refine sr ?_
 refine fl KT ?_
 refine lo iF ?_
 refine aq ?_
 refine nt ?_
 refine aA ?_
 cases h
 exact ra
def bS(k:Nat)(a0:ae)(a1:(List Int))(r5:(List Int)):Nat->Int->Option (Except Int Unit)
 |0,_=>none
 |n+1,y6=>
  if y6 < (r5.length:Int) then((aQ r5 y6).bind λx8=>
  (cK (0≤x8/\x8 < 5)).bind λ_=>
  (aQ a1 x8).bind λe=>
  if(mX 0 a0.2.1)≤e then(some (.error x8)) else((ck (y6+1)).bind λc=>
  bS k a0 a1 r5 n c)) else(some (.ok ()))
def dk(k:Nat)(a0:ae)(a1:(List Int))(a2:Int)(a3:Int):Option Int:=
 bE (α:=Unit) ((dW k k a0 a2 a3).bind λr4=>
 (H9 r4 (λn=>ii k n) (λl=>ig k l)).bind λr5=>
 bS k a0 a1 r5 k 0) (some) λ_=>
 some (-1:Int)
theorem jG{M:Md Tryz.prog}{bm:Nat}{c0 c1 c2 c3 c4 c5:Value}(hK:Kn M bm 0 [c0,c1,c2,c3,c4,c5])(k:Nat)(a0:ae)(a1:(List Int))(a2:Int)(a3:Int)(r:Int)(h:dk k a0 a1 a2 a3=some r):
    bW M 89 [.rep (.mo (Pv bm) [c0,c1,c2,c3,c4,c5] ap) a0,.rep Tr a1,.eq (.int .i64 a2),.eq (.int .i64 a3)] [] (λ_:Unit=>(bI [.eq (.int .i64 r)],[])):=by
  unfold dk at h
  replace h:=bi h
  refine bW.of 33 Tryz.func89 rfl Tryz.ntmps89 rfl λS w0=>?_
  refine ak ?_
  refine ab ?_
  refine aX rfl rfl rfl (vT rfl rfl) ⟨rfl,trivial⟩ λb1=>?_
  refine Dq rfl ?_
  refine aC ?_
  refine an ?_
  show JC _ _ _ _ _
  refine du (Z:=Unit) (α:=Unit) (λz3 x2=>[]) (λz3 x2=>[]) (λe=>e=r) h (λe h=>Option.some.inj h) (λK hR h=>?_) (λz3 x2 h=>?_)
  .
    refine ak ?_
    refine ab ?_
    refine gP rfl rfl ?_
    refine gP rfl rfl ?_
    refine gP rfl rfl ?_
    obtain⟨r4,D,h⟩:=aa h
    have E:=lb hK k k a0 a2 a3 r4 D
    refine bY rfl (aS [.tmp 11,.tmp 12,.tmp 13] rfl rfl Oj rfl E) ⟨rfl,rfl,rfl,trivial⟩ ?_
    obtain⟨r5,c,h⟩:=aa h
    refine bY rfl (JQ (r:=.rep Tl r5) rfl rfl vo vn (λn hd=>.agI (pP k n r5 (by rw [hd] at c;exact c))) (λl hd=>.agS (pK k l r5 (by rw [hd] at c;exact c)))) ⟨rfl,trivial⟩ ?_
    refine bY rfl (qA rfl rfl iv) ⟨rfl,trivial⟩ ?_
    refine eG rfl ?_
    refine aC ?_
    refine an ?_
    show JC _ _ _ _ _
    refine aj ?_
    refine aE (λz7 y6=>[(0,.rep (.mo (Pv bm) [c0,c1,c2,c3,c4,c5] ap) a0),(5,.eq (Pv b1)),(15,.rep Tl r5),(16,.eq (.int .i64 (r5.length:Int))),(17,.eq (.int .i64 y6))]) (λz7 y6=>[.obj b1 78 (.rep Tr a1)]) (bS k a0 a1 r5) k () 0 (λ_=>rfl) h (SE.fin [0] ⟨rfl,rfl,rfl,rfl,rfl,trivial⟩ rfl) (λn z7 y6 h=>?_)
    unfold bS at h
    refine ak ?_
    refine ab ?_
    refine bY rfl (bH rfl) ⟨rfl,rfl,trivial⟩ ?_
    refine aC ?_
    refine an ?_
    show JC _ _ _ _ _
    refine ak ?_
    refine iW rfl (λhb=>?_) (λhb=>?_)
    . replace h:=fR (wu hb) h
      refine bf ?_
      refine an ?_
      show JC _ _ _ _ _
      refine ak ?_
      refine aj ?_
      refine ak ?_
      refine ab ?_
      obtain⟨x8,y,h⟩:=aa h
      refine bY rfl (aY (t:=Ti) rfl iv cL y) ⟨rfl,rfl,trivial⟩ ?_
      refine bY rfl (au (t:=Ti) rfl cL rfl) ⟨rfl,trivial⟩ ?_
      refine uP rfl rfl ?_
      refine aC ?_
      refine an ?_
      show JC _ _ _ _ _
      refine ak ?_
      refine cP ?_
      refine fW rfl rfl rfl (bG rfl) ⟨rfl,trivial⟩ ?_
      obtain⟨u9,u,h⟩:=aa h
      refine fW rfl rfl rfl (dN rfl BD cL (am u).1 (am u).2) ⟨rfl,rfl,trivial⟩ ?_
      obtain⟨F,s,h⟩:=aa h
      refine uT 0 rfl rfl rfl rfl (mM (t:=Ti) (off:=0) (i:=x8) (N:=5) rfl cL (λ_=>rfl) rfl rfl rfl rfl s) ⟨rfl,trivial⟩ ?_
      refine fW rfl rfl rfl (bG rfl) ⟨rfl,trivial⟩ ?_
      refine fW rfl rfl rfl (kY rfl) ⟨rfl,trivial⟩ ?_
      refine fW rfl rfl rfl (gr rfl gJ) ⟨rfl,trivial⟩ ?_
      refine fW rfl rfl rfl (io 1 false rfl Bj rfl rfl) ⟨rfl,trivial⟩ ?_
      refine fW rfl rfl rfl (jf (t:=Ti) rfl cL (hK.sub 1 1 rfl (le_of_ble_eq_true rfl)) rfl rfl) ⟨rfl,trivial⟩ ?_
      refine fW rfl rfl rfl (GK rfl rfl) ⟨rfl,rfl,trivial⟩ ?_
      refine BJ (by kernel_rfl) ew ?_
      refine bY rfl (i7 rfl) ⟨rfl,rfl,trivial⟩ ?_
      refine aC ?_
      refine an ?_
      show JC _ _ _ _ _
      refine iW rfl (λhb=>?_) (λhb=>?_)
      . replace h:=fR (wu hb) h
        refine ak ?_
        refine ab ?_
        refine gP rfl rfl ?_
        refine uP rfl rfl ?_
        refine aC ?_
        refine an ?_
        show JC _ _ _ _ _
        refine aA ?_
        refine ba ?_
        refine aW ?_
        refine aW ?_
        refine ba ?_
        refine aW ?_
        obtain rfl:=hR _ h
        exact aO () [_] 0 ⟨rfl,trivial⟩ rfl
      . replace h:=dr (wv hb) h
        refine bf ?_
        refine aR ?_
        refine an ?_
        show JC _ _ _ _ _
        refine ab ?_
        obtain⟨x,j,h⟩:=aa h
        refine bY rfl (bu rfl j) ⟨rfl,rfl,trivial⟩ ?_
        refine gP rfl rfl ?_
        refine aC ?_
        refine an ?_
        exact uQ ((),x) h (SE.fin [0] ⟨rfl,rfl,rfl,rfl,rfl,trivial⟩ rfl)
    . replace h:=dr (wv hb) h
      refine fV ?_
      refine bR ?_
      refine bR ?_
      refine c8 ?_
      refine an ?_
      exact uQ ((),()) h (SE.fin [] trivial rfl)
  .
    refine ak ?_
    refine ab ?_
    refine Dq rfl ?_
    refine aC ?_
    refine an ?_
    show JC _ _ _ _ _
    refine aA ?_
    obtain rfl:=Option.some.inj h
    exact aO () [_] 0 ⟨rfl,trivial⟩ rfl
def cp(k:Nat)(a0:ae)(a1:(List Int))(a2:Int):Nat->((List Int)×Int)->Option (List Int)
 |0,_=>none
 |n+1,y6=>
  if y6.2 < a0.1 then((((dW k k a0 y6.2 a2).bind λc=>
  if JE c=true then(if a0.2.2.2.1≤(PI c) then((cK (0≤y6.2/\y6.2 < 5)).bind λ_=>
  some (List.set y6.1 (Int.toNat y6.2) (-1:Int))) else(some y6.1)) else(if¬(JE c=true) then((cK (0≤y6.2/\y6.2 < 5)).bind λ_=>
  (aQ a1 y6.2).bind λl=>
  if 0≤l then((cK (0≤y6.2/\y6.2 < 5)).bind λ_=>
  (aQ a1 y6.2).bind λj=>
  (ck (j+1)).bind λh=>
  (cK (0≤y6.2/\y6.2 < 5)).bind λ_=>
  some (List.set y6.1 (Int.toNat y6.2) h)) else((dk k a0 a1 y6.2 a2).bind λr=>
  if 0≤r then((cK (0≤y6.2/\y6.2 < 5)).bind λ_=>
  some (List.set y6.1 (Int.toNat y6.2) 0)) else(some y6.1))) else(some y6.1))):Option ((List Int))).bind λx8=>
  (ck (y6.2+1)).bind λe=>
  cp k a0 a1 a2 n (x8,e)) else(some y6.1)
def gx(k:Nat)(a0:ae)(a1:(List Int))(a2:Int):Option (List Int):=
 ((cp k a0 a1 a2 k (a1,0)):Option ((List Int))).bind λx4=>
 some x4
theorem qG{M:Md Tryz.prog}{bm:Nat}{c0 c1 c2 c3 c4 c5:Value}(hK:Kn M bm 0 [c0,c1,c2,c3,c4,c5])(k:Nat)(a0:ae)(a1:(List Int))(a2:Int)(r:(List Int))(h:gx k a0 a1 a2=some r):
 bW M 79 [.rep (.mo (Pv bm) [c0,c1,c2,c3,c4,c5] ap) a0,.rep Tr a1,I a2] [] (λ_:Unit=>(bI [.rep Tr r],[])):=by
 unfold gx at h
 replace h:=bi h
 refine bW.of 60 Tryz.func79 rfl Tryz.ntmps79 rfl λS w0=>?_
 refine sr ?_
 refine bx λb1=>?_
 refine aX rfl rfl rfl (bo rfl IZ Lp) trivial λb2=>?_
 refine nt ?_
 refine sr ?_
 refine fr 1 ?_
 refine lo iY ?_
 refine aX rfl rfl rfl (bo rfl IZ Lp) trivial λb3=>?_
 refine aP rfl rfl (aM rfl iY rfl rfl rfl) ⟨rfl,rfl,trivial⟩ ?_
 refine nt ?_
 refine aG (Z:=Unit) (α:=(List Int)) (λz5 x4=>[(6,Pt b2),(7,Pt b3)]) (λz5 x4=>[.obj b2 78 (.rep Tr [0,0,0,0,0]),.obj b3 78 (.rep Tr x4)]) h (λK h=>?_) (λz5 x4 h=>?_)
 .
  refine sr (mq ?_);refine ja (kY rfl) ?_;refine ja (gr rfl gJ) ?_;refine ja (io 1 false rfl gA rfl rfl) ?_;refine ja (jf (t:=Ti) rfl cL (hK.sub 0 1 rfl (le_of_ble_eq_true rfl)) rfl rfl) ?_;refine eG rfl ?_;refine nt (aj (aE (λz7 y6=>[(0,.rep (.mo (Pv bm) [c0,c1,c2,c3,c4,c5] ap) a0),(2,I a2),(4,Pt b1),(6,Pt b2),(7,Pt b3),(16,I a0.1),(17,I y6.2)]) (λz7 y6=>[.obj b1 78 (.rep Tr a1),.obj b2 78 (.rep Tr [0,0,0,0,0]),.obj b3 78 (.rep Tr y6.1)]) (cp k a0 a1 a2) k () (a1,0) (λ_=>rfl) h (SE.fin [1,2,0] ⟨rfl,rfl,rfl,rfl,rfl,rfl,rfl,trivial⟩ rfl) (λn z7 y6 h=>?_)));unfold cp at h;refine sr (jb (bH rfl) ?_);refine nt (ak (ci h (λh=>?_) (λh=>?_)))
  .refine sk (aG (Z:=Unit) (α:=(List Int)) (λz9 x8=>[(0,.rep (.mo (Pv bm) [c0,c1,c2,c3,c4,c5] ap) a0),(2,I a2),(4,Pt b1),(6,Pt b2),(7,Pt b3),(16,I a0.1),(17,I y6.2)]) (λz9 x8=>[.obj b1 78 (.rep Tr a1),.obj b2 78 (.rep Tr [0,0,0,0,0]),.obj b3 78 (.rep Tr x8)]) h (λK h=>?_) (λz9 x8 h=>?_))
   .refine aj (sr (mq ?_));refine aq (nt (sr ?_));iterate 3 refine mq ?_
    obtain⟨U,F,h⟩:=aa h;refine jc (aS [.tmp 20,.tmp 21,.tmp 22] rfl rfl Oj rfl (lb hK k k a0 y6.2 a2 U F)) ?_;refine nt (aj (sr (bY rfl (BY rfl FP (by decide)) ⟨rfl,trivial⟩ ?_)));refine xr ?_;refine xr ?_;refine nt (cv h (λh=>?_) (λh=>?_))
    .refine sr (aX rfl rfl rfl (bo rfl E5 MR) trivial λUn=>?_);refine aP rfl rfl (aM rfl MB trivial rfl rfl) ⟨rfl,rfl,trivial⟩ ?_;refine nt (ak (cP ?_));refine da (aH rfl CP) ?_;refine ea 0 (ay rfl cL pe rfl) ?_;refine dm ?_;refine da (kY rfl) ?_;refine da (gr rfl gJ) ?_;refine da (io 1 false rfl HS rfl rfl) ?_;refine da (jf (t:=Ti) rfl cL (hK.sub 3 1 rfl (le_of_ble_eq_true rfl)) rfl rfl) ?_;refine df ew ?_;refine jb (i7 rfl) ?_;refine nt (ci h (λh=>?_) (λh=>?_))
     .refine ab (mq ?_);obtain⟨qt,j,h⟩:=aa h;refine jb (dN rfl BD cL (am j).1 (am j).2) ?_;refine fr 3 ?_;refine aP rfl rfl (gq (t:=Ti) (off:=0) (i:=y6.2) (N:=5) rfl cL .int rfl rfl rfl rfl (am j).1 (am j).2 rfl) ⟨rfl,rfl,trivial⟩ ?_;refine aC (aR (bn ?_));exact jz ((),List.set y6.1 (Int.toNat y6.2) (-1:Int)) h [2,3,0]
     .refine bf (aR (bn ?_));exact jz ((),y6.1) h [1,2,3]
    .refine sr (bY rfl (JV rfl Nk (by decide)) ⟨rfl,trivial⟩ ?_);refine xr ?_;refine xr ?_;refine nt (cw h (λh=>?_) (λh=>?_))
     .refine sr (aX rfl rfl rfl (bo rfl LY QP) trivial λzz=>?_);refine aP rfl rfl (aM rfl PD trivial rfl rfl) ⟨rfl,rfl,trivial⟩ ?_;refine nt (sr (mq ?_));obtain⟨mw,s,h⟩:=aa h;refine jb (dN rfl BD cL (am s).1 (am s).2) ?_;obtain⟨Y,D,h⟩:=aa h;refine fr 1 ?_;refine ka (mM (t:=Ti) (off:=0) (i:=y6.2) (N:=5) rfl cL (λ_=>rfl) rfl rfl rfl rfl D) ?_;refine jb (i7 rfl) ?_;refine nt (ci h (λh=>?_) (λh=>?_))
      .refine ab ?_;iterate 2 refine mq ?_
       obtain⟨u16,l,h⟩:=aa h;refine jb (dN rfl BD cL (am l).1 (am l).2) ?_;obtain⟨X,y,h⟩:=aa h;refine ka (mM (t:=Ti) (off:=0) (i:=y6.2) (N:=5) rfl cL (λ_=>rfl) rfl rfl rfl rfl y) ?_;obtain⟨O,x,h⟩:=aa h;refine jb (bu rfl x) ?_;obtain⟨mc,e,h⟩:=aa h;refine jb (dN rfl BD cL (am e).1 (am e).2) ?_;refine fr 3 ?_;refine aP rfl rfl (gq (t:=Ti) (off:=0) (i:=y6.2) (N:=5) rfl cL .int rfl rfl rfl rfl (am e).1 (am e).2 rfl) ⟨rfl,rfl,trivial⟩ ?_;refine aC (aR (bn ?_));exact jz ((),List.set y6.1 (Int.toNat y6.2) O) h [1,3,0]
      .refine sr (mq ?_);refine lo iY ?_;iterate 2 refine mq ?_
       obtain⟨Q,E,h⟩:=aa h;refine bY rfl (aS [.tmp 50,.tmp 51,.tmp 52,.tmp 53] rfl rfl Qp rfl (jG hK k a0 a1 y6.2 a2 Q E)) ⟨rfl,rfl,rfl,rfl,trivial⟩ ?_;refine jb (i7 rfl) ?_;refine nt (ci h (λh=>?_) (λh=>?_))
       .refine ab (mq ?_);obtain⟨gw,c,h⟩:=aa h;refine jb (dN rfl BD cL (am c).1 (am c).2) ?_;refine fr 3 ?_;refine aP rfl rfl (gq (t:=Ti) (off:=0) (i:=y6.2) (N:=5) rfl cL .int rfl rfl rfl rfl (am c).1 (am c).2 rfl) ⟨rfl,rfl,trivial⟩ ?_;refine aC (aR (bn ?_));exact jz ((),List.set y6.1 (Int.toNat y6.2) 0) h [1,3,0]
       .refine bf (aR (bn ?_));exact jz ((),y6.1) h [0,2,3]
     .refine bf (aR (bn ?_));exact jz ((),y6.1) h [0,1,2]
   .refine ab ?_;obtain⟨J,u,h⟩:=aa h;refine jb (bu rfl u) ?_;refine mq (nl ?_);exact jz ((),(x8,J)) h [0,1,2]
  .refine xa ?_;exact jz ((),y6.1) h [1,2]
 .
  refine sr (fr 1 ?_);refine lo iY ?_;refine fr 1 ?_;refine aP rfl rfl (aM rfl iY rfl rfl rfl) ⟨rfl,rfl,trivial⟩ ?_;refine nt (aA ?_);obtain rfl:=Option.some.inj h;exact aO () [.rep Tr x4] 0 ⟨⟨_,_,_,_,_,rfl,(.head _),iY,(tj),rfl⟩,trivial⟩ rfl
def di{σ:Type}(k:Nat)(a0:Int)(a3:Int)(self:Int->Int->σ->Option (Bool×σ)):Nat->(Int×σ)->Option (Except (Bool×σ) (σ))
 |0,_=>none
 |n+1,y5=>
  if y5.1 < a3 then((eS k a0 y5.1).bind λr7=>
  (ck (y5.1+1)).bind λx8=>
  (self r7 x8 y5.2).bind λr9=>
  if¬(r9.1=true) then(some (.error (false,r9.2))) else((ck (y5.1+1)).bind λc=>
  di k a0 a3 self n (c,r9.2))) else(some (.ok y5.2))
def dj{σ:Type}(k:Nat)(Y:σ->Int->Option (σ×Bool))(a3:Int):Nat->Int->Int->σ->Option (Bool×σ)
 |0,_,_,_=>none
 |m0+1,a0,a1,s0=>
  (Y s0 a0).bind λr1=>
  if¬(r1.2=true) then(some (false,r1.1)) else(bE (α:=σ) (di k a0 a3 (dj k Y a3 m0) k (a1,r1.1)) (some) λx3=>
  some (true,x3))
theorem rS{M:Md Tryz.prog}{σ Z:Type}(E:Z->σ->List D)(l:Nat)(Y:σ->Int->Option (σ×Bool))(k:Nat)(u:Nat)(a3:Int)(j:Nat)(c:Nat)(hY:∀z s p r,Y s p=some r->YT M l [.eq (.int .u8 p)] (E z s) (λz':Z=>(.eq (.bool r.2),E z' r.1))):
 ∀(n:Nat) (a0:Int) (a1:Int) (z0:Z) (s0:σ) (r:Bool×σ),dj k Y a3 n a0 a1 s0=some r->bW M 82 [.eq (.int .u8 a0),I a1,Pt u,Pt j,Pt c] ([.obj u 99 (.eq (.func (.yield l) #[] #[])),.obj j 3 (I a3),.obj c 98 (.eq (.func (.func 82) #[] #[(Pv u),(Pv j),(Pv c)]))]++E z0 s0) (λz:Z=>(bI [.eq (.bool r.1)],[.obj u 99 (.eq (.func (.yield l) #[] #[])),.obj j 3 (I a3),.obj c 98 (.eq (.func (.func 82) #[] #[(Pv u),(Pv j),(Pv c)]))]++E z r.2)):=by
 intro n
 induction n with
 |zero=>intro a0 a1 z0 s0 r h;cases h
 |succ m0 ih=>
  intro a0 a1 z0 s0 r h;rw [dj] at h;replace h:=bi h;refine bW.of 27 Tryz.func82 rfl Tryz.ntmps82 rfl λS w0=>?_;refine sr (cq (nt (ak (sr ?_))));refine lo RB ?_;refine mq ?_;obtain⟨r1,U,h⟩:=aa h;refine fr 2 ?_;refine fr 2 ?_;refine fr 2 ?_;refine ID [.obj u 99 (.eq (.func (.yield l) #[] #[])),.obj j 3 (I a3),.obj c 98 (.eq (.func (.func 82) #[] #[(Pv u),(Pv j),(Pv c)]))] rfl rfl rfl (JJ [.tmp 10] rfl rfl rfl (hY z0 s0 a0 r1 U)) ⟨rfl,rfl,trivial⟩ λz2=>?_;refine ja (iK rfl) ?_;refine nt (cw h (λh=>?_) (λh=>?_))
  .refine sr (cq (nt (rx ?_)));cases h;exact tw z2 [_] ⟨rfl,trivial⟩ rfl
  .refine sk (du (Z:=Z) (α:=σ) (λz4 x3=>[]) (λz4 x3=>[.obj u 99 (.eq (.func (.yield l) #[] #[])),.obj j 3 (I a3),.obj c 98 (.eq (.func (.func 82) #[] #[(Pv u),(Pv j),(Pv c)]))]++E z4 x3) (λe=>e=r) h (λe h=>Option.some.inj h) (λK hR h=>?_) (λz4 x3 h=>?_))
   .refine sr (mq ?_);refine aq (nt (aj ?_));refine aE (Z:=Z) (α:=Int×σ) (λz6 y5=>[(0,.eq (.int .u8 a0)),(3,Pt j),(4,Pt c),(8,I y5.1)]) (λz6 y5=>[.obj j 3 (I a3),.obj c 98 (.eq (.func (.func 82) #[] #[(Pv u),(Pv j),(Pv c)])),.obj u 99 (.eq (.func (.yield l) #[] #[]))]++E z6 y5.2) (di k a0 a3 (dj k Y a3 m0)) k z2 (a1,r1.1) (λ_=>rfl) h (kD [.obj u 99 (.eq (.func (.yield l) #[] #[])),.obj j 3 (I a3),.obj c 98 (.eq (.func (.func 82) #[] #[(Pv u),(Pv j),(Pv c)]))] (E z2 r1.1) [1,2,0] ⟨rfl,rfl,rfl,rfl,trivial⟩ rfl) (λn z6 y5 h=>?_);unfold di at h;refine ak (sr (mq ?_));refine lo cL ?_;refine jb (bH rfl) ?_;refine nt (ci h (λh=>?_) (λh=>?_))
    .refine sk (ak (aj (ak (cP ?_))));refine ea 1 (ay rfl Nl pe rfl) ?_;refine dm ?_;refine dm ?_;obtain⟨r7,Q,h⟩:=aa h;refine db (av [.tmp 20,.tmp 21] rfl rfl KY rfl (ic k a0 y5.1 r7 Q)) ?_;refine dm ?_;obtain⟨x8,J,h⟩:=aa h;refine db (bu rfl J) ?_;refine df ew ?_;obtain⟨r9,O,h⟩:=aa h;refine fr 1 ?_;refine fr 1 ?_;refine fr 2 ?_;refine zW rfl rfl rfl (qB (fs:=[]) (cs:=[(Pv u),(Pv j),(Pv c)]) (ags:=[.eq (.int .u8 r7),I x8]) [.tmp 22,.tmp 24] rfl rfl Qq rfl (ih r7 x8 z6 y5.2 r9 O)) ⟨rfl,rfl,rfl,trivial⟩ λx=>?_;refine ja (iK rfl) ?_;refine nt (cw h (λh=>?_) (λh=>?_))
     .refine sr (cq (nt (aA (br (ba (aW ?_))))));obtain rfl:=hR _ h;exact tw x [_] ⟨rfl,trivial⟩ rfl
     .refine bf (aR (tn (ab (mq ?_))));obtain⟨F,y,h⟩:=aa h;refine jb (bu rfl y) ?_;refine aq (nl ?_);exact uQ (x,(F,r9.2)) h (kD [.obj u 99 (.eq (.func (.yield l) #[] #[])),.obj j 3 (I a3),.obj c 98 (.eq (.func (.func 82) #[] #[(Pv u),(Pv j),(Pv c)]))] (E x r9.2) [1,2,0] ⟨rfl,rfl,rfl,rfl,trivial⟩ rfl)
    .refine xa ?_;exact uQ (z6,y5.2) h (kD [.obj j 3 (I a3),.obj c 98 (.eq (.func (.func 82) #[] #[(Pv u),(Pv j),(Pv c)])),.obj u 99 (.eq (.func (.yield l) #[] #[]))] (E z6 y5.2) [2,0,1] trivial rfl)
   .refine sr (cq (nt (aA ?_)));cases h;exact tw z4 [_] ⟨rfl,trivial⟩ rfl
def jH{σ:Type}(k:Nat)(Y:σ->Int->Option (σ×Bool))(a1:Int)(s0:σ):Option (σ):=
 (dj k Y a1 k 0 0 s0).bind λr3=>
 some r3.2
theorem nX{M:Md Tryz.prog}{σ Z:Type}(E:Z->σ->List D)(l:Nat)(Y:σ->Int->Option (σ×Bool))(k:Nat)(a1:Int)(c:Nat)(hY:∀z s p r,Y s p=some r->YT M l [.eq (.int .u8 p)] (E z s) (λz':Z=>(.eq (.bool r.2),E z' r.1))):
 ∀(z0:Z) (s0:σ) (r:σ),jH k Y a1 s0=some r->bW M 81 [.eq (.func (.yield l) #[] #[]),Pt c] ([.obj c 3 (I a1)]++E z0 s0) (λz:Z=>(bI [],[.obj c 3 (I a1)]++E z r)):=by
 intro z0 s0 r h
 unfold jH at h
 replace h:=bi h
 refine bW.of 7 Tryz.func81 rfl Tryz.ntmps81 rfl λS w0=>?_
 refine sr ?_
 refine bx λb1=>?_
 refine nt ?_
 refine sr ?_
 refine aX rfl rfl rfl (bo rfl Rt Tu) trivial λb2=>?_
 refine nt ?_
 refine sr ?_
 refine jc (rI [] [.tmp 2,.tmp 1,.tmp 3] [] [(Pv b1),(Pv c),(Pv b2)] rfl rfl rfl) ?_
 refine aP rfl rfl (aM rfl Nl rfl rfl rfl) ⟨rfl,rfl,trivial⟩ ?_
 refine nt ?_
 refine ab ?_
 refine lo Nl ?_
 obtain⟨r3,e,h⟩:=aa h
 have j:=rS E l Y k b1 a1 c b2 hY k 0 0 z0 s0 r3 e
 refine fr 2 ?_
 refine fr 2 ?_
 refine zW rfl rfl rfl (qB (fs:=[]) (cs:=[(Pv b1),(Pv c),(Pv b2)]) (ags:=[.eq (.int .u8 0),I 0]) [.const (.int .u8 (0)),.const (.int .i64 (0))] rfl rfl Qq rfl j) ⟨rfl,rfl,rfl,trivial⟩ λz4=>?_
 refine aC ?_
 refine jV ?_
 refine bU (kD (Γ':=[]) [.obj b1 99 (.eq (.func (.yield l) #[] #[])),.obj c 3 (I a1),.obj b2 98 (.eq (.func (.func 82) #[] #[(Pv b1),(Pv c),(Pv b2)]))] (E z4 r3.2) [1] trivial rfl) ?_
 cases h
 exact tw z4 [] trivial rfl
theorem qI(a0:Int):dH Tryz.prog 52 [I a0] [] (λz:Nat=>(bI [.eq (.func (.func 81) #[] #[(Pv z)])],[.obj z 3 (I a0)])):=by
 refine dH.of 4 Tryz.func52 rfl Tryz.ntmps52 rfl λS w0=>?_;refine sr (bx λz=>?_);refine cq (nt (sr ?_));refine ja (rI [] [.tmp 1] [] [(Pv z)] rfl rfl rfl) ?_;refine aq (nt (aA ?_));exact aO z [_] 1 ⟨rfl,trivial⟩ rfl
def dy(k:Nat)(a0:Int):Nat->((List Int)×Int)->Option (List Int)
 |0,_=>none
 |n+1,y3=>
  if y3.2 < 5 then((((eU k a0 y3.2).bind λr7=>
  if r7=true then((cK (cf (length y3.1+length [y3.2]))).bind λ_=>
  some (y3.1++[y3.2])) else(some y3.1)):Option ((List Int))).bind λx5=>
  (ck (y3.2+1)).bind λc=>
  dy k a0 n (x5,c)) else(some y3.1)
def eT(k:Nat)(a0:Int):Option (List Int):=
 ((dy k a0 k (([]:(List Int)),0)):Option ((List Int))).bind λx1=>
 some x1
theorem ie(k:Nat)(a0:Int)(r:(List Int))(h:eT k a0=some r):
 dH Tryz.prog 39 [.eq (.int .u8 a0)] [] (λ_:Unit=>(bI [.rep Tl r],[])):=by
 unfold eT at h
 replace h:=bi h
 refine dH.of 17 Tryz.func39 rfl Tryz.ntmps39 rfl λS w0=>?_
 refine sr ?_
 refine cq ?_
 refine nt ?_
 refine sr ?_
 refine cq ?_
 refine nt ?_
 refine aG (Z:=Value) (α:=(List Int)) (λz2 x1=>[(3,.eq z2)]) (λz2 x1=>[.sl z2 3 Ti x1]) h (λK h=>?_) (λz2 x1 h=>?_)
 .
  refine sr (eG rfl ?_);refine nt (aj (jd (SE.nil 3 Ti) ?_));refine aE (λz4 y3=>[(0,.eq (.int .u8 a0)),(3,.eq z4),(5,I y3.2)]) (λz4 y3=>[.sl z4 3 Ti y3.1]) (dy k a0) k (.slice none 0 0) (([]:(List Int)),0) (λ_=>rfl) h (SE.fin [0] ⟨rfl,rfl,rfl,trivial⟩ rfl) (λn z4 y3 h=>?_);unfold dy at h;refine sr (jb (bH rfl) ?_);refine nt (ak (ci h (λh=>?_) (λh=>?_)))
  .refine sk (aG (Z:=Value) (α:=(List Int)) (λz6 x5=>[(0,.eq (.int .u8 a0)),(3,.eq z6),(5,I y3.2)]) (λz6 x5=>[.sl z6 3 Ti x5]) h (λK h=>?_) (λz6 x5 h=>?_))
   .refine aj (sr (mq ?_));refine aq (nt (sr ?_));iterate 2 refine mq ?_
    obtain⟨r7,l,h⟩:=aa h;refine jb (av [.tmp 8,.tmp 9] rfl rfl HY rfl (gu k a0 y3.2 r7 l)) ?_;refine nt (cv h (λh=>?_) (λh=>?_))
    .refine ab ?_;iterate 2 refine mq ?_
     refine ja (bg (t:=Ti) [(.tmp 12,_)] [y3.2] rfl rfl dR (.cons rfl .int .nil) rfl rfl) ?_;obtain⟨u8,j,h⟩:=aa h;refine eK rfl rfl rfl (cN rfl rfl dR (am j)) ⟨rfl,rfl,trivial⟩ λv9=>?_;refine aq (aC (bn ?_));exact jz (v9,y3.1++[y3.2]) h [0]
    .refine bf (bn ?_);exact jz (z4,y3.1) h [0]
   .refine ab ?_;obtain⟨e,c,h⟩:=aa h;refine jb (bu rfl c) ?_;refine mq (nl ?_);exact jz (z6,(x5,e)) h [0]
  .refine xa ?_;exact jz (z4,y3.1) h [0]
 .
  refine sr (mq ?_);refine aq (nt (aA ?_));refine bU (jp [2,3,16] ⟨rfl,rfl,rfl,trivial⟩) ?_;cases h;exact ra
def gV(k:Nat)(a0:List Int):Option (List Int):=
 (cK (cf (length a0))).bind λ_=>some a0
theorem rA(k:Nat)(a0:List Int)(r:List Int)(h:gV k a0=some r):
 dH Tryz.prog 41 [.rep Tl a0] [] (λz:Value=>(bI [.eq z],[.sl z 3 Ti r])):=by
 unfold gV at h
 replace h:=bi h
 refine dH.of 8 Tryz.func41 rfl Tryz.ntmps41 rfl λS w0=>?_
 obtain⟨u1,c,h⟩:=aa h
 cases h
 refine sr ?_
 refine cq ?_
 refine nt ?_
 refine ak ?_
 refine sr ?_
 refine mq ?_
 refine aI (Δ:=[]) (F:=_) (λ_ _ _=>ag rfl _) rfl rfl (JS rfl iv) ⟨rfl,rfl,trivial⟩ λb=>?_
 refine nt ?_
 refine iW rfl (λhb=>?_) (λhb=>?_)
 .
  refine sr (cq (nt (rx ?_)));obtain rfl:=b.2 hb;refine bU (SE.nil 3 Ti) ?_;exact aO (.slice none 0 0) [.eq (.slice none 0 0)] 1 ⟨rfl,trivial⟩ rfl
 .
  refine sk (sr (aX rfl rfl rfl (mN (t:=Ti) [] [] rfl rfl dR .nil rfl rfl) trivial λv1=>?_));refine mq ?_;refine eK rfl rfl rfl (cN rfl rfl dR (by simpa using am c)) ⟨rfl,rfl,trivial⟩ λv2=>?_;refine aq (nt (aA ?_));exact aO v2 [.eq v2] 1 ⟨rfl,trivial⟩ rfl
def fa(k:Nat)(a0:ae)(a1:(List (List Int))):Nat->Int->Option (Except Bool Unit)
 |0,_=>none
 |n+1,y5=>
  if y5 < (a1.length:Int) then((aQ a1 y5).bind λx7=>
  if¬((x7.length:Int)=a0.1) then(some (.error false)) else((ck (y5+1)).bind λx8=>
  fa k a0 a1 n x8)) else(some (.ok ()))
def mt(k:Nat)(a0:ae)(a1:(List (List Int))):Option Bool:=
 (ck ((a0.2.2.2.2.1.length:Int)+1)).bind λx2=>
 if¬((a1.length:Int)=x2) then(some false) else(bE (α:=Unit) (fa k a0 a1 k 0) (some) λ_=>
 some true)
theorem xl(k:Nat)(a0:ae)(a1:(List (List Int)))(r:Bool)(h:mt k a0 a1=some r):
 dH Tryz.prog 14 [.rep ap a0,.rep (.slice Tl) a1] [] (λ_:Unit=>(bI [.eq (.bool r)],[])):=by
 unfold mt at h
 replace h:=bi h
 refine dH.of 27 Tryz.func14 rfl Tryz.ntmps14 rfl λS w0=>?_
 refine sr ?_
 refine bx λb1=>?_
 refine cq ?_
 refine nt ?_
 refine ak ?_
 refine sr ?_
 refine mq ?_
 refine ol qX ?_
 refine fl eI ?_
 refine lo lC ?_
 refine ol Aj ?_
 obtain⟨x2,l,h⟩:=aa h
 refine jb (bu rfl l) ?_
 refine jb (eQ rfl) ?_
 refine nt ?_
 refine cn h (λh=>?_) (λh=>?_)
 .
  refine sr (cq (nt (rx ?_)));cases h;exact ra
 .
  refine sk (du (Z:=Unit) (α:=Unit) (λz4 x3=>[]) (λz4 x3=>[]) (λe=>e=r) h (λe h=>Option.some.inj h) (λK hR h=>?_) (λz4 x3 h=>?_))
  .refine sr (cq (nt (aj ?_)));refine aE (λz6 y5=>[(1,.rep (.slice Tl) a1),(2,Pt b1),(5,I y5)]) (λz6 y5=>[.obj b1 26 (.rep ap a0)]) (fa k a0 a1) k () 0 (λ_=>rfl) h (SE.fin [0] ⟨rfl,rfl,rfl,trivial⟩ rfl) (λn z6 y5 h=>?_);unfold fa at h;refine ak (sr ?_);iterate 2 refine mq ?_
   refine ol qX ?_;refine jb (bH rfl) ?_;refine nt (ci h (λh=>?_) (λh=>?_))
   .refine sk (ak (aj (ak (cP ?_))));refine dm ?_;refine dm ?_;obtain⟨x7,j,h⟩:=aa h;refine db (aY (t:=Tl) rfl qX iF j) ?_;refine da (au (t:=Tl) rfl iF rfl) ?_;refine da (qA rfl rfl iv) ?_;refine da (aH rfl gA) ?_;refine ea 0 (ay rfl cL pe rfl) ?_;refine df ew ?_;refine jb (eQ rfl) ?_;refine nt (cn h (λh=>?_) (λh=>?_))
    .refine sr (cq (nt (aA (br (ba (aW ?_))))));obtain rfl:=hR _ h;exact ra
    .refine bf (aR (tn (ab (mq ?_))));obtain⟨x8,c,h⟩:=aa h;refine jb (bu rfl c) ?_;refine aq (nl ?_);exact jz ((),x8) h [0]
   .refine xa ?_;exact jz ((),()) h []
  .refine sr (cq (nt (aA ?_)));cases h;exact ra
def iG(k:Nat)(a0:(List Int)):Nat->(Int×Int)->Option Int
 |0,_=>none
 |n+1,y4=>
  if y4.2 < (a0.length:Int) then((aQ a0 y4.2).bind λx6=>
  (ck (y4.2+1)).bind λx7=>
  iG k a0 n (HA y4.1 x6,x7)) else(some y4.1)
def lH(k:Nat)(a0:(List Int)):Option Int:=
 if(a0.length:Int) < 1 then(none) else((aQ a0 0).bind λx1=>
 ((iG k a0 k (x1,1)):Option (Int)).bind λx2=>
 some x2)
theorem nJ(k:Nat)(a0:(List Int))(r:Int)(h:lH k a0=some r):
 dH Tryz.prog 45 [.rep Tl a0] [] (λ_:Unit=>(bI [I r],[])):=by
 unfold lH at h
 replace h:=bi h
 refine dH.of 25 Tryz.func45 rfl Tryz.ntmps45 rfl λS w0=>?_
 refine sr ?_
 refine cq ?_
 refine nt ?_
 refine ak ?_
 refine sr ?_
 refine mq ?_
 refine ol iv ?_
 refine jb (bH rfl) ?_
 refine nt ?_
 refine ci h (λh=>?_) (λh=>?_)
 .
  cases h
 .
  refine sk (sr (mq ?_));obtain⟨x1,j,h⟩:=aa h;refine jb (aY (t:=Ti) rfl iv cL j) ?_;refine ja (au (t:=Ti) rfl cL rfl) ?_;refine aq (nt ?_);refine aG (Z:=Unit) (α:=Int) (λz3 x2=>[(3,I x2)]) (λz3 x2=>[]) h (λK h=>?_) (λz3 x2 h=>?_)
  .refine sr (cq (nt (aj ?_)));refine aE (λz5 y4=>[(0,.rep Tl a0),(3,I y4.1),(4,I y4.2)]) (λz5 y4=>[]) (iG k a0) k () (x1,1) (λ_=>rfl) h (SE.fin [] ⟨rfl,rfl,rfl,trivial⟩ rfl) (λn z5 y4 h=>?_);unfold iG at h;refine ak (sr ?_);iterate 2 refine mq ?_
   refine ol iv ?_;refine jb (bH rfl) ?_;refine nt (ci h (λh=>?_) (λh=>?_))
   .refine sk (ak (aj (ab ?_)));iterate 3 refine mq ?_
    obtain⟨x6,e,h⟩:=aa h;refine jb (aY (t:=Ti) rfl iv cL e) ?_;refine ja (au (t:=Ti) rfl cL rfl) ?_;refine jb (PT rfl rfl) ?_;refine aq (aC (aR (tn (ab ?_))));refine mq ?_;obtain⟨x7,c,h⟩:=aa h;refine jb (bu rfl c) ?_;refine aq (nl ?_);exact jz ((),(HA y4.1 x6,x7)) h []
   .refine xa ?_;exact jz ((),y4.1) h []
  .refine sr (mq ?_);refine aq (nt (aA ?_));cases h;exact ra
def iH(k:Nat)(a0:(List Int)):Nat->(Int×Int)->Option Int
 |0,_=>none
 |n+1,y4=>
  if y4.2 < (a0.length:Int) then((aQ a0 y4.2).bind λx6=>
  (ck (y4.2+1)).bind λx7=>
  iH k a0 n (mX y4.1 x6,x7)) else(some y4.1)
def nK(k:Nat)(a0:(List Int)):Option Int:=
 if(a0.length:Int) < 1 then(none) else((aQ a0 0).bind λx1=>
 ((iH k a0 k (x1,1)):Option (Int)).bind λx2=>
 some x2)
theorem tN(k:Nat)(a0:(List Int))(r:Int)(h:nK k a0=some r):
 dH Tryz.prog 46 [.rep Tl a0] [] (λ_:Unit=>(bI [I r],[])):=by
 unfold nK at h
 replace h:=bi h
 refine dH.of 25 Tryz.func46 rfl Tryz.ntmps46 rfl λS w0=>?_
 refine sr ?_
 refine cq ?_
 refine nt ?_
 refine ak ?_
 refine sr ?_
 refine mq ?_
 refine ol iv ?_
 refine jb (bH rfl) ?_
 refine nt ?_
 refine ci h (λh=>?_) (λh=>?_)
 .
  cases h
 .
  refine sk (sr (mq ?_));obtain⟨x1,j,h⟩:=aa h;refine jb (aY (t:=Ti) rfl iv cL j) ?_;refine ja (au (t:=Ti) rfl cL rfl) ?_;refine aq (nt ?_);refine aG (Z:=Unit) (α:=Int) (λz3 x2=>[(3,I x2)]) (λz3 x2=>[]) h (λK h=>?_) (λz3 x2 h=>?_)
  .refine sr (cq (nt (aj ?_)));refine aE (λz5 y4=>[(0,.rep Tl a0),(3,I y4.1),(4,I y4.2)]) (λz5 y4=>[]) (iH k a0) k () (x1,1) (λ_=>rfl) h (SE.fin [] ⟨rfl,rfl,rfl,trivial⟩ rfl) (λn z5 y4 h=>?_);unfold iH at h;refine ak (sr ?_);iterate 2 refine mq ?_
   refine ol iv ?_;refine jb (bH rfl) ?_;refine nt (ci h (λh=>?_) (λh=>?_))
   .refine sk (ak (aj (ab ?_)));iterate 3 refine mq ?_
    obtain⟨x6,e,h⟩:=aa h;refine jb (aY (t:=Ti) rfl iv cL e) ?_;refine ja (au (t:=Ti) rfl cL rfl) ?_;refine jb (GK rfl rfl) ?_;refine aq (aC (aR (tn (ab ?_))));refine mq ?_;obtain⟨x7,c,h⟩:=aa h;refine jb (bu rfl c) ?_;refine aq (nl ?_);exact jz ((),(mX y4.1 x6,x7)) h []
   .refine xa ?_;exact jz ((),y4.1) h []
  .refine sr (mq ?_);refine aq (nt (aA ?_));cases h;exact ra
def ky(k:Nat)(a0:Int):Option Int:=
 (eT k a0).bind λr1=>
 some (r1.length:Int)
theorem nn(k:Nat)(a0:Int)(r:Int)(h:ky k a0=some r):
 dH Tryz.prog 58 [.eq (.int .u8 a0)] [] (λ_:Unit=>(bI [I r],[])):=by
 unfold ky at h
 replace h:=bi h
 refine dH.of 6 Tryz.func58 rfl Tryz.ntmps58 rfl λS w0=>?_
 refine sr ?_
 refine cq ?_
 refine nt ?_
 refine sr ?_
 refine mq ?_
 obtain⟨r1,c,h⟩:=aa h
 have e:=ie k a0 r1 c
 refine ja (av [.tmp 3] rfl rfl KZ rfl e) ?_
 refine ol iv ?_
 refine aq ?_
 refine nt ?_
 refine aA ?_
 cases h
 exact ra
def mT(k:Nat)(a0:Int)(a1:Int):Option Int:=
 (ky k a0).bind λr1=>
 (ky k a1).bind λr2=>
 (ck (r1 - r2)).bind λx3=>
 some x3
theorem sZ(k:Nat)(a0:Int)(a1:Int)(c:Nat)(r:Int)(h:mT k a0 a1=some r):
 dH Tryz.prog 85 [.eq (.int .u8 a0),.eq (.int .u8 a1),Pt c] [.obj c 102 (.eq (.func (.func 58) #[] #[]))] (λ_:Unit=>(bI [I r],[.obj c 102 (.eq (.func (.func 58) #[] #[]))])):=by
 unfold mT at h
 replace h:=bi h
 refine dH.of 13 Tryz.func85 rfl Tryz.ntmps85 rfl λS w0=>?_
 refine sr ?_
 refine cq ?_
 refine nt ?_
 refine ak ?_
 refine cP ?_
 refine ea 0 (ay rfl MD pe rfl) ?_
 refine dm ?_
 obtain⟨r1,l,h⟩:=aa h
 have s:=nn k a0 r1 l
 refine db (tg (fs:=[]) (cs:=[]) (ags:=[.eq (.int .u8 a0)]) [.tmp 7] rfl rfl Qv rfl s) ?_
 refine ea 0 (ay rfl MD pe rfl) ?_
 refine dm ?_
 refine df ew ?_
 obtain⟨r2,j,h⟩:=aa h
 have n:=nn k a1 r2 j
 refine jb (tg (fs:=[]) (cs:=[]) (ags:=[.eq (.int .u8 a1)]) [.tmp 10] rfl rfl Qv rfl n) ?_
 obtain⟨x3,e,h⟩:=aa h
 refine jb (eF rfl e) ?_
 refine aq ?_
 refine nt ?_
 refine aA ?_
 cases h
 exact aO () [_] 1 ⟨rfl,trivial⟩ rfl
def fN(k:Nat)(a0:(List Int)):Nat->(Int×Int)->Option Int
 |0,_=>none
 |n+1,y4=>
  if y4.2 < (a0.length:Int) then((((aQ a0 y4.2).bind λx8=>
  (mT k x8 y4.1).bind λr9=>
  if r9 < 0 then((aQ a0 y4.2).bind λe=>
  some e) else(some y4.1)):Option (Int)).bind λx6=>
  (ck (y4.2+1)).bind λc=>
  fN k a0 n (x6,c)) else(some y4.1)
def jY(k:Nat)(a0:(List Int)):Option Int:=
 if(a0.length:Int) < 1 then(none) else((aQ a0 0).bind λx1=>
 ((fN k a0 k (x1,1)):Option (Int)).bind λx2=>
 some x2)
theorem pD(k:Nat)(a0:(List Int))(c_a1_0:Nat)(r:Int)(h:jY k a0=some r):
 dH Tryz.prog 84 [.rep (.slice (.int .u8)) a0,.eq (.func (.func 85) #[] #[(Pv c_a1_0)])] [.obj c_a1_0 102 (.eq (.func (.func 58) #[] #[]))] (λ_:Unit=>(bI [.eq (.int .u8 r)],[.obj c_a1_0 102 (.eq (.func (.func 58) #[] #[]))])):=by
 unfold jY at h
 replace h:=bi h
 refine dH.of 33 Tryz.func84 rfl Tryz.ntmps84 rfl λS w0=>?_
 refine sr ?_
 refine cq ?_
 refine nt ?_
 refine ak ?_
 refine sr ?_
 refine mq ?_
 refine ol yg ?_
 refine jb (bH rfl) ?_
 refine nt ?_
 refine ci h (λh=>?_) (λh=>?_)
 .
  cases h
 .
  refine sk (sr (mq ?_));obtain⟨x1,u,h⟩:=aa h;refine jb (aY (t:=(.int .u8)) rfl yg nG u) ?_;refine ja (au (t:=(.int .u8)) rfl nG rfl) ?_;refine aq (nt ?_);refine aG (Z:=Unit) (α:=Int) (λz3 x2=>[(5,.eq (.int .u8 x2))]) (λz3 x2=>[.obj c_a1_0 102 (.eq (.func (.func 58) #[] #[]))]) h (λK h=>?_) (λz3 x2 h=>?_)
  .refine sr (cq (nt (aj ?_)));refine aE (λz5 y4=>[(0,.rep (.slice (.int .u8)) a0),(1,.eq (.func (.func 85) #[] #[(Pv c_a1_0)])),(5,.eq (.int .u8 y4.1)),(6,I y4.2)]) (λz5 y4=>[.obj c_a1_0 102 (.eq (.func (.func 58) #[] #[]))]) (fN k a0) k () (x1,1) (λ_=>rfl) h (SE.fin [0] ⟨rfl,rfl,rfl,rfl,trivial⟩ rfl) (λn z5 y4 h=>?_);unfold fN at h;refine ak (sr ?_);iterate 2 refine mq ?_
   refine ol yg ?_;refine jb (bH rfl) ?_;refine nt (ci h (λh=>?_) (λh=>?_))
   .refine sk (aG (Z:=Unit) (α:=Int) (λz7 x6=>[(0,.rep (.slice (.int .u8)) a0),(1,.eq (.func (.func 85) #[] #[(Pv c_a1_0)])),(5,.eq (.int .u8 x6)),(6,I y4.2)]) (λz7 x6=>[.obj c_a1_0 102 (.eq (.func (.func 58) #[] #[]))]) h (λK h=>?_) (λz7 x6 h=>?_))
    .refine aj (sr ?_);iterate 3 refine mq ?_
     obtain⟨x8,s,h⟩:=aa h;refine jb (aY (t:=(.int .u8)) rfl yg nG s) ?_;refine ja (au (t:=(.int .u8)) rfl nG rfl) ?_;refine mq ?_;obtain⟨r9,x,h⟩:=aa h;refine kc (tg (fs:=[]) (cs:=[(Pv c_a1_0)]) (ags:=[.eq (.int .u8 x8),.eq (.int .u8 y4.1)]) [.tmp 24,.tmp 25] rfl rfl SA rfl (sZ k x8 y4.1 c_a1_0 r9 x)) ?_;refine jb (bH rfl) ?_;refine nt (ci h (λh=>?_) (λh=>?_))
     .refine ab ?_;iterate 2 refine mq ?_
      obtain⟨l,e,h⟩:=aa h;refine jb (aY (t:=(.int .u8)) rfl yg nG e) ?_;refine ja (au (t:=(.int .u8)) rfl nG rfl) ?_;refine aq (aC (bn ?_));exact jz ((),l) h [0]
     .refine bf (bn ?_);exact jz ((),y4.1) h [0]
    .refine ab (mq ?_);obtain⟨j,c,h⟩:=aa h;refine jb (bu rfl c) ?_;refine aq (nl ?_);exact jz ((),(x6,j)) h [0]
   .refine xa ?_;exact jz ((),y4.1) h [0]
  .refine sr (mq ?_);refine aq (nt (aA ?_));cases h;exact aO () [_] 1 ⟨rfl,trivial⟩ rfl
def pN(k:Nat)(a0:(List Int)):Option Int:=
 (jY k a0).bind λr2=>
 some r2
theorem vq(k:Nat)(a0:(List Int))(r:Int)(h:pN k a0=some r):
 dH Tryz.prog 57 [.rep (.slice (.int .u8)) a0,.eq (.func (.func 58) #[] #[])] [] (λ_:Unit=>(bI [.eq (.int .u8 r)],[])):=by
 unfold pN at h
 replace h:=bi h
 refine dH.of 8 Tryz.func57 rfl Tryz.ntmps57 rfl λS w0=>?_
 refine sr ?_
 refine bx λb1=>?_
 refine cq ?_
 refine nt ?_
 refine sr ?_
 refine mq ?_
 refine ja (rI [] [.tmp 3] [] [(Pv b1)] rfl rfl rfl) ?_
 obtain⟨r2,c,h⟩:=aa h
 have e:=pD k a0 b1 r2 c
 refine kb (av [.tmp 5,.tmp 6] rfl rfl SB rfl e) ?_
 refine aq ?_
 refine nt ?_
 refine aA ?_
 cases h
 exact ra
def ij(k:Nat)(a0:(List Int))(a1:(List Int)):Nat->Int->Option (Except Bool Unit)
 |0,_=>none
 |n+1,y3=>
  if y3 < (a0.length:Int) then((aQ a0 y3).bind λx5=>
  (aQ a1 y3).bind λx6=>
  if¬(x5=x6) then(some (.error false)) else((ck (y3+1)).bind λx7=>
  ij k a0 a1 n x7)) else(some (.ok ()))
def iR(k:Nat)(a0:(List Int))(a1:(List Int)):Option Bool:=
 if¬((a0.length:Int)=(a1.length:Int)) then(some false) else(bE (α:=Unit) (ij k a0 a1 k 0) (some) λ_=>
 some true)
theorem kg(k:Nat)(a0:(List Int))(a1:(List Int))(r:Bool)(h:iR k a0 a1=some r):
 dH Tryz.prog 26 [.rep Tl a0,.rep Tl a1] [] (λ_:Unit=>(bI [.eq (.bool r)],[])):=by
 unfold iR at h
 replace h:=bi h
 refine dH.of 26 Tryz.func26 rfl Tryz.ntmps26 rfl λS w0=>?_
 refine sr ?_
 refine cq ?_
 refine nt ?_
 refine ak ?_
 refine sr ?_
 refine mq ?_
 refine ol iv ?_
 refine mq ?_
 refine ol iv ?_
 refine jb (eQ rfl) ?_
 refine nt ?_
 refine cn h (λh=>?_) (λh=>?_)
 .
  refine sr (cq (nt (rx ?_)));cases h;exact ra
 .
  refine sk (du (Z:=Unit) (α:=Unit) (λz2 x1=>[]) (λz2 x1=>[]) (λe=>e=r) h (λe h=>Option.some.inj h) (λK hR h=>?_) (λz2 x1 h=>?_))
  .refine sr (cq (nt (aj ?_)));refine aE (λz4 y3=>[(0,.rep Tl a0),(1,.rep Tl a1),(5,I y3)]) (λz4 y3=>[]) (ij k a0 a1) k () 0 (λ_=>rfl) h (SE.fin [] ⟨rfl,rfl,rfl,trivial⟩ rfl) (λn z4 y3 h=>?_);unfold ij at h;refine ak (sr ?_);iterate 2 refine mq ?_
   refine ol iv ?_;refine jb (bH rfl) ?_;refine nt (ci h (λh=>?_) (λh=>?_))
   .refine sk (ak (aj (ak (cP ?_))));refine dm ?_;refine dm ?_;obtain⟨x5,l,h⟩:=aa h;refine db (aY (t:=Ti) rfl iv cL l) ?_;refine da (au (t:=Ti) rfl cL rfl) ?_;refine dm ?_;refine dm ?_;obtain⟨x6,j,h⟩:=aa h;refine db (aY (t:=Ti) rfl iv cL j) ?_;refine da (au (t:=Ti) rfl cL rfl) ?_;refine df ew ?_;refine jb (eQ rfl) ?_;refine nt (cn h (λh=>?_) (λh=>?_))
    .refine sr (cq (nt (aA (br (ba (aW ?_))))));obtain rfl:=hR _ h;exact ra
    .refine bf (aR (tn (ab (mq ?_))));obtain⟨x7,c,h⟩:=aa h;refine jb (bu rfl c) ?_;refine aq (nl ?_);exact jz ((),x7) h []
   .refine xa ?_;exact jz ((),()) h []
  .refine sr (cq (nt (aA ?_)));cases h;exact ra
def fM(k:Nat):Nat->((List Int)×Int×Int)->Option (List Int)
 |0,_=>none
 |n+1,y2=>
  if y2.2.1 < y2.2.2 then((aQ y2.1 y2.2.2).bind λx4=>
  (aQ y2.1 y2.2.1).bind λx5=>
  (aQ y2.1 y2.2.1).bind λx6=>
  (aQ (List.set y2.1 (Int.toNat y2.2.1) x4) y2.2.2).bind λx7=>
  (ck (y2.2.1+1)).bind λx8=>
  (ck (y2.2.2 - 1)).bind λx9=>
  fM k n (List.set (List.set y2.1 (Int.toNat y2.2.1) x4) (Int.toNat y2.2.2) x5,x8,x9)) else(some y2.1)
def jX(k:Nat)(a0:(List Int)):Option (List Int):=
 (ck ((a0.length:Int) - 1)).bind λx1=>
 fM k k (a0,0,x1)
theorem pC(k:Nat)(a0:(List Int))(c:Value)(r:(List Int))(h:jX k a0=some r):
 dH Tryz.prog 67 [.eq c] [.sl c 3 Ti a0] (λ_:Unit=>(bI [],[.sl c 3 Ti r])):=by
 unfold jX at h
 replace h:=bi h
 refine dH.of 28 Tryz.func67 rfl Tryz.ntmps67 rfl λS w0=>?_
 refine sr ?_
 refine mq ?_
 refine ka (kH rfl rfl iv) ?_
 obtain⟨x1,mc,h⟩:=aa h
 refine jb (eF rfl mc) ?_
 refine cq ?_
 refine aq ?_
 refine nt ?_
 refine aj ?_
 refine aE (λz3 y2=>[(0,.eq c),(2,I y2.2.1),(3,I y2.2.2)]) (λz3 y2=>[.sl c 3 Ti y2.1]) (fM k) k () (a0,0,x1) (λ_=>rfl) h (SE.fin [0] ⟨rfl,rfl,rfl,trivial⟩ rfl) (λn z3 y2 h=>?_)
 unfold fM at h
 refine ak ?_
 refine sr ?_
 iterate 2 refine mq ?_
 refine jb (bH rfl) ?_
 refine nt ?_
 refine ci h (λh=>?_) (λh=>?_)
 .
  refine sk (ak (aj (rj ?_)));refine bN rfl rfl rfl (bG rfl) ⟨rfl,trivial⟩ ?_;refine bN rfl rfl rfl (bG rfl) ⟨rfl,trivial⟩ ?_;refine bN rfl rfl rfl (bG rfl) ⟨rfl,trivial⟩ ?_;refine bN rfl rfl rfl (bG rfl) ⟨rfl,trivial⟩ ?_;refine bN rfl rfl rfl (bG rfl) ⟨rfl,trivial⟩ ?_;refine bN rfl rfl rfl (bG rfl) ⟨rfl,trivial⟩ ?_;obtain⟨x4,D,h⟩:=aa h;refine gU 0 rfl rfl rfl rfl (bX (t:=Ti) rfl iv cL D) ⟨rfl,rfl,trivial⟩ ?_;refine gU 0 rfl rfl rfl rfl (f8 (i:=Int.toNat y2.2.2) (off:=0) rfl cL (λ_=>rfl) rfl (dw D).2.2 rfl) ⟨rfl,trivial⟩ ?_;refine bN rfl rfl rfl (bG rfl) ⟨rfl,trivial⟩ ?_;refine bN rfl rfl rfl (bG rfl) ⟨rfl,trivial⟩ ?_;obtain⟨x5,y,h⟩:=aa h;refine gU 0 rfl rfl rfl rfl (bX (t:=Ti) rfl iv cL y) ⟨rfl,rfl,trivial⟩ ?_;refine gU 0 rfl rfl rfl rfl (f8 (i:=Int.toNat y2.2.1) (off:=0) rfl cL (λ_=>rfl) rfl (dw y).2.2 rfl) ⟨rfl,trivial⟩ ?_;obtain⟨x6,x,h⟩:=aa h;refine gU 0 rfl rfl rfl rfl (bX (t:=Ti) rfl iv cL x) ⟨rfl,rfl,trivial⟩ ?_;refine uS 13 [true,true,false,false,true,true,true,true,true,true,true,true,true] [27] [] [] rfl (by kernel_rfl) (by kernel_rfl) (by kernel_rfl) ew (λvs hv hB=>?_);obtain⟨w0,UB,rfl,Y⟩:=ax hv;obtain⟨w1,UA,rfl,X⟩:=ax Y;obtain⟨w2,Uz,rfl,U⟩:=ax X;obtain⟨w3,Uy,rfl,Q⟩:=ax U;obtain⟨w4,Ux,rfl,O⟩:=ax Q;obtain⟨w5,Uw,rfl,M⟩:=ax O;obtain⟨w6,Uu,rfl,J⟩:=ax M;obtain⟨w7,Ut,rfl,F⟩:=ax J;obtain⟨w8,Us,rfl,E⟩:=ax F;obtain⟨w9,Un,rfl,s⟩:=ax E;obtain⟨Ur,zz,rfl,l⟩:=ax s;obtain⟨Up,qt,rfl,j⟩:=ax l;obtain⟨Uo,mw,rfl,e⟩:=ax j;obtain rfl:=qK e;refine⟨[0],[.sl c 3 Ti y2.1],by kernel_rfl,by decide,?_⟩;refine sH rfl rfl (fD (i:=Int.toNat y2.2.1) rfl cL rfl (lR x) rfl .int rfl) ⟨rfl,rfl,trivial⟩ (by kernel_rfl) ?_;obtain⟨x7,u,h⟩:=aa h;refine uO rfl rfl rfl rfl (bX (t:=Ti) rfl iv cL u) ⟨rfl,rfl,trivial⟩ (by kernel_rfl) ?_;refine sH rfl rfl (fD (i:=Int.toNat y2.2.2) rfl cL rfl (lR u) rfl .int rfl) ⟨rfl,rfl,trivial⟩ (by kernel_rfl) ?_;refine xX ?_;refine bU (SE.fin (Γ':=[(0,.eq c),(2,I y2.2.1),(3,I y2.2.2)]) (Δ':=[.sl c 3 Ti (List.set (List.set y2.1 (Int.toNat y2.2.1) x4) (Int.toNat y2.2.2) x5)]) [0] ⟨rfl,rfl,rfl,trivial⟩ rfl) ?_;refine aR (tn (ab (mq ?_)));obtain⟨x8,gw,h⟩:=aa h;refine jb (bu rfl gw) ?_;refine mq ?_;obtain⟨x9,Z,h⟩:=aa h;refine jb (eF rfl Z) ?_;refine aq ?_;refine aq (nl ?_);exact jz ((),(List.set (List.set y2.1 (Int.toNat y2.2.1) x4) (Int.toNat y2.2.2) x5,x8,x9)) h [0]
 .
  refine fV (bR (bR (c8 (jV ?_))));cases h;exact aO () [] 1 trivial rfl
def li(k:Nat)(a0:Int)(a1:Int)(a2:Bool):Option bF:=
 some (a0,a1,a2)
theorem lY(k:Nat)(a0:Int)(a1:Int)(a2:Bool)(r:bF)(h:li k a0 a1 a2=some r):
 dH Tryz.prog 31 [I a0,I a1,.eq (.bool a2)] [] (λ_:Unit=>(bI [.rep bb r],[])):=by
 unfold li at h
 replace h:=bi h
 refine dH.of 11 Tryz.func31 rfl Tryz.ntmps31 rfl λS w0=>?_
 refine sr ?_
 refine aX rfl rfl rfl (bo rfl DF Lr) trivial λb1=>?_
 refine nt ?_
 refine sr ?_
 iterate 3 refine mq ?_
 refine jc (dY [(0,.tmp 7,_),(1,.tmp 8,_),(2,.tmp 9,_)] rfl PK DF MP (jC ⟨rfl,rfl,rfl,trivial⟩) rfl) ?_
 refine aP rfl rfl (aM rfl tG trivial rfl rfl) ⟨rfl,rfl,trivial⟩ ?_
 refine nt ?_
 refine aA ?_
 refine bU (ik (a:=.agg (.pair (I a0) (.pair (I a1) (.eq (.bool a2))))) (a':=.rep bb (a0,a1,a2)) (jr (.agg (.pair .int (.pair .int .bool))))) ?_
 cases h
 exact aO () [.rep bb (a0,a1,a2)] 0 ⟨⟨_,_,_,_,_,rfl,(.head _),tG,(tj),rfl⟩,trivial⟩ rfl
def iz(k:Nat)(a0:(List bF)):Option ae:=
 (li k 1 2 true).bind λr2=>
 (li k 2 1 false).bind λr3=>
 (li k 3 3 false).bind λr4=>
 (cK (cf (length [r2,r3,r4]+length a0))).bind λ_=>
 some (4,1,1,2,[[[0,1,2],[3]],[[0,1],[2,3]],[[1,2,3]],[[1,3],[2]]],[r2,r3,r4]++a0)
theorem gG(k:Nat)(a0:(List bF))(r:ae)(h:iz k a0=some r):
 dH Tryz.prog 47 [Rs bb a0] [] (λ_:Unit=>(bI [.rep ap r],[])):=by
 unfold iz at h
 replace h:=bi h
 refine dH.of 24 Tryz.func47 rfl Tryz.ntmps47 rfl λS w0=>?_
 refine sr ?_
 refine aX rfl rfl rfl (bo rfl yh EJ) trivial λb1=>?_
 refine nt ?_
 refine sr ?_
 obtain⟨r2,l,h⟩:=aa h
 have u:=lY k 1 2 true r2 l
 refine jc (av [.const (.int .i64 (1)),.const (.int .i64 (2)),.const (.bool true)] rfl rfl Oo rfl u) ?_
 obtain⟨r3,j,h⟩:=aa h
 have s:=lY k 2 1 false r3 j
 refine jc (av [.const (.int .i64 (2)),.const (.int .i64 (1)),.const (.bool false)] rfl rfl Oo rfl s) ?_
 obtain⟨r4,e,h⟩:=aa h
 have n:=lY k 3 3 false r4 e
 refine jc (av [.const (.int .i64 (3)),.const (.int .i64 (3)),.const (.bool false)] rfl rfl Oo rfl n) ?_
 refine aX rfl rfl rfl (mN (t:=bb) [(.tmp 4,_),(.tmp 5,_),(.tmp 6,_)] [r2,r3,r4] rfl rfl Jw (.cons rfl .rep (.cons rfl .rep (.cons rfl .rep .nil))) rfl rfl) ⟨rfl,rfl,rfl,trivial⟩ λv5=>?_
 refine aq ?_
 refine nt ?_
 refine sr ?_
 refine jc (bg (t:=Ti) [(.const (.int .i64 (0)),_),(.const (.int .i64 (1)),_),(.const (.int .i64 (2)),_)] [0,1,2] rfl rfl dR (.cons rfl .int (.cons rfl .int (.cons rfl .int .nil))) rfl rfl) ?_
 refine ja (bg (t:=Ti) [(.const (.int .i64 (3)),_)] [3] rfl rfl dR (.cons rfl .int .nil) rfl rfl) ?_
 refine jb (bg (t:=Tl) [(.tmp 8,_),(.tmp 9,_)] [[0,1,2],[3]] rfl rfl o8 (.cons rfl .rep (.cons rfl .rep .nil)) rfl rfl) ?_
 refine jb (bg (t:=Ti) [(.const (.int .i64 (0)),_),(.const (.int .i64 (1)),_)] [0,1] rfl rfl dR (.cons rfl .int (.cons rfl .int .nil)) rfl rfl) ?_
 refine jb (bg (t:=Ti) [(.const (.int .i64 (2)),_),(.const (.int .i64 (3)),_)] [2,3] rfl rfl dR (.cons rfl .int (.cons rfl .int .nil)) rfl rfl) ?_
 refine jb (bg (t:=Tl) [(.tmp 11,_),(.tmp 12,_)] [[0,1],[2,3]] rfl rfl o8 (.cons rfl .rep (.cons rfl .rep .nil)) rfl rfl) ?_
 refine jc (bg (t:=Ti) [(.const (.int .i64 (1)),_),(.const (.int .i64 (2)),_),(.const (.int .i64 (3)),_)] [1,2,3] rfl rfl dR (.cons rfl .int (.cons rfl .int (.cons rfl .int .nil))) rfl rfl) ?_
 refine ja (bg (t:=Tl) [(.tmp 14,_)] [[1,2,3]] rfl rfl o8 (.cons rfl .rep .nil) rfl rfl) ?_
 refine jb (bg (t:=Ti) [(.const (.int .i64 (1)),_),(.const (.int .i64 (3)),_)] [1,3] rfl rfl dR (.cons rfl .int (.cons rfl .int .nil)) rfl rfl) ?_
 refine ja (bg (t:=Ti) [(.const (.int .i64 (2)),_)] [2] rfl rfl dR (.cons rfl .int .nil) rfl rfl) ?_
 refine jb (bg (t:=Tl) [(.tmp 16,_),(.tmp 17,_)] [[1,3],[2]] rfl rfl o8 (.cons rfl .rep (.cons rfl .rep .nil)) rfl rfl) ?_
 refine bY rfl (bg (t:=(.slice Tl)) [(.tmp 10,_),(.tmp 13,_),(.tmp 15,_),(.tmp 18,_)] [[[0,1,2],[3]],[[0,1],[2,3]],[[1,2,3]],[[1,3],[2]]] rfl rfl AC (.cons rfl .rep (.cons rfl .rep (.cons rfl .rep (.cons rfl .rep .nil)))) rfl rfl) ⟨rfl,rfl,rfl,rfl,trivial⟩ ?_
 iterate 2 refine mq ?_
 obtain⟨u6,c,h⟩:=aa h
 refine eK rfl rfl rfl (cN rfl rfl Jw (am c)) ⟨rfl,rfl,trivial⟩ λv7=>?_
 refine fg (jp [22] ⟨rfl,trivial⟩) ?_
 refine bY rfl (dY [(0,.const (.int .i64 (4)),_),(1,.const (.int .i64 (1)),_),(2,.const (.int .i64 (1)),_),(3,.const (.int .i64 (2)),_),(4,.tmp 19,_),(5,.tmp 22,_)] rfl PL yh MQ (jC ⟨rfl,rfl,rfl,rfl,rfl,rfl,trivial⟩) rfl) ⟨rfl,rfl,rfl,rfl,rfl,rfl,trivial⟩ ?_
 refine aP rfl rfl (aM rfl im trivial rfl rfl) ⟨rfl,rfl,trivial⟩ ?_
 refine nt ?_
 refine aA ?_
 refine bU (ik (a:=.agg (.pair (I 4) (.pair (I 1) (.pair (I 1) (.pair (I 2) (.pair (.rep (.slice (.slice Tl)) [[[0,1,2],[3]],[[0,1],[2,3]],[[1,2,3]],[[1,3],[2]]]) (Rs bb ([r2,r3,r4]++a0)))))))) (a':=.rep ap (4,1,1,2,[[[0,1,2],[3]],[[0,1],[2,3]],[[1,2,3]],[[1,3],[2]]],[r2,r3,r4]++a0)) (jr (.agg (.pair .int (.pair .int (.pair .int (.pair .int (.pair .rep .rep)))))))) ?_
 cases h
 exact aO () [.rep ap (4,1,1,2,[[[0,1,2],[3]],[[0,1],[2,3]],[[1,2,3]],[[1,3],[2]]],[r2,r3,r4]++a0)] 0 ⟨⟨_,_,_,_,_,rfl,(.head _),im,(tj),rfl⟩,trivial⟩ rfl
def gI(k:Nat)(a0:(List (List Int)))(a1:(List (List Int))):Nat->Int->Option (Except Bool Unit)
 |0,_=>none
 |n+1,y3=>
  if y3 < (a0.length:Int) then((aQ a0 y3).bind λx5=>
  (aQ a1 y3).bind λx6=>
  (iR k x5 x6).bind λr7=>
  if¬(r7=true) then(some (.error false)) else((ck (y3+1)).bind λx8=>
  gI k a0 a1 n x8)) else(some (.ok ()))
def jy(k:Nat)(a0:(List (List Int)))(a1:(List (List Int))):Option Bool:=
 if¬((a0.length:Int)=(a1.length:Int)) then(some false) else(bE (α:=Unit) (gI k a0 a1 k 0) (some) λ_=>
 some true)
theorem my(k:Nat)(a0:(List (List Int)))(a1:(List (List Int)))(r:Bool)(h:jy k a0 a1=some r):
 dH Tryz.prog 49 [.rep (.slice Tl) a0,.rep (.slice Tl) a1] [] (λ_:Unit=>(bI [.eq (.bool r)],[])):=by
 unfold jy at h
 replace h:=bi h
 refine dH.of 27 Tryz.func49 rfl Tryz.ntmps49 rfl λS w0=>?_
 refine sr ?_
 refine cq ?_
 refine nt ?_
 refine ak ?_
 refine sr ?_
 refine mq ?_
 refine ol qX ?_
 refine mq ?_
 refine ol qX ?_
 refine jb (eQ rfl) ?_
 refine nt ?_
 refine cn h (λh=>?_) (λh=>?_)
 .
  refine sr (cq (nt (rx ?_)));cases h;exact ra
 .
  refine sk (du (Z:=Unit) (α:=Unit) (λz2 x1=>[]) (λz2 x1=>[]) (λe=>e=r) h (λe h=>Option.some.inj h) (λK hR h=>?_) (λz2 x1 h=>?_))
  .refine sr (cq (nt (aj ?_)));refine aE (λz4 y3=>[(0,.rep (.slice Tl) a0),(1,.rep (.slice Tl) a1),(5,I y3)]) (λz4 y3=>[]) (gI k a0 a1) k () 0 (λ_=>rfl) h (SE.fin [] ⟨rfl,rfl,rfl,trivial⟩ rfl) (λn z4 y3 h=>?_);unfold gI at h;refine ak (sr ?_);iterate 2 refine mq ?_
   refine ol qX ?_;refine jb (bH rfl) ?_;refine nt (ci h (λh=>?_) (λh=>?_))
   .refine sk (ak (aj (ak (cP ?_))));refine dm ?_;refine dm ?_;obtain⟨x5,l,h⟩:=aa h;refine db (aY (t:=Tl) rfl qX iF l) ?_;refine da (au (t:=Tl) rfl iF rfl) ?_;refine dm ?_;refine dm ?_;obtain⟨x6,j,h⟩:=aa h;refine db (aY (t:=Tl) rfl qX iF j) ?_;refine da (au (t:=Tl) rfl iF rfl) ?_;refine df ew ?_;obtain⟨r7,s,h⟩:=aa h;refine jb (av [.tmp 20,.tmp 24] rfl rfl Oq rfl (kg k x5 x6 r7 s)) ?_;refine ja (iK rfl) ?_;refine nt (cw h (λh=>?_) (λh=>?_))
    .refine sr (cq (nt (aA (br (ba (aW ?_))))));obtain rfl:=hR _ h;exact ra
    .refine bf (aR (tn (ab (mq ?_))));obtain⟨x8,c,h⟩:=aa h;refine jb (bu rfl c) ?_;refine aq (nl ?_);exact jz ((),x8) h []
   .refine xa ?_;exact jz ((),()) h []
  .refine sr (cq (nt (aA ?_)));cases h;exact ra
def kL(k:Nat)(a0:(List Int))(a1:Int):Nat->Int->Option (Except Int Unit)
 |0,_=>none
 |n+1,y3=>
  if y3 < (a0.length:Int) then((aQ a0 y3).bind λx5=>
  if x5=a1 then(some (.error y3)) else((ck (y3+1)).bind λx6=>
  kL k a0 a1 n x6)) else(some (.ok ()))
def um(k:Nat)(a0:(List Int))(a1:Int):Option Int:=
 bE (α:=Unit) (kL k a0 a1 k 0) (some) λ_=>
 some (-1:Int)
theorem Ef(k:Nat)(a0:(List Int))(a1:Int)(r:Int)(h:um k a0 a1=some r):
 dH Tryz.prog 19 [.rep Tl a0,I a1] [] (λ_:Unit=>(bI [I r],[])):=by
 unfold um at h
 replace h:=bi h
 refine dH.of 19 Tryz.func19 rfl Tryz.ntmps19 rfl λS w0=>?_
 refine sr ?_
 refine cq ?_
 refine nt ?_
 refine du (Z:=Unit) (α:=Unit) (λz2 x1=>[]) (λz2 x1=>[]) (λe=>e=r) h (λe h=>Option.some.inj h) (λK hR h=>?_) (λz2 x1 h=>?_)
 .
  refine sr (cq (nt (aj ?_)));refine aE (λz4 y3=>[(0,.rep Tl a0),(1,I a1),(5,I y3)]) (λz4 y3=>[]) (kL k a0 a1) k () 0 (λ_=>rfl) h (SE.fin [] ⟨rfl,rfl,rfl,trivial⟩ rfl) (λn z4 y3 h=>?_);unfold kL at h;refine ak (sr ?_);iterate 2 refine mq ?_
  refine ol iv ?_;refine jb (bH rfl) ?_;refine nt (ci h (λh=>?_) (λh=>?_))
  .refine sk (ak (aj (sr ?_)));iterate 2 refine mq ?_
   obtain⟨x5,j,h⟩:=aa h;refine jb (aY (t:=Ti) rfl iv cL j) ?_;refine ja (au (t:=Ti) rfl cL rfl) ?_;refine mq ?_;refine jb (i8 rfl) ?_;refine nt (ci h (λh=>?_) (λh=>?_))
   .refine sr (mq ?_);refine aq (nt (aA (br (ba (aW ?_)))));obtain rfl:=hR _ h;exact ra
   .refine bf (aR (tn (ab (mq ?_))));obtain⟨x6,c,h⟩:=aa h;refine jb (bu rfl c) ?_;refine aq (nl ?_);exact jz ((),x6) h []
  .refine xa ?_;exact jz ((),()) h []
 .
  refine sr (cq (nt (aA ?_)));cases h;exact ra
