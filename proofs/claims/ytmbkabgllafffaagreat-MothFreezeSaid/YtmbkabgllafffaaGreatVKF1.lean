import Derived.Test.YtmbkabgllafffaaGreatVKFacts
open Nat
open List hiding mem_of_getElem?
open Array hiding mem_of_getElem? mk
set_option linter.unusedSimpArgs false
set_option linter.unusedVariables false
set_option maxRecDepth 4000
set_option maxHeartbeats 1000000
namespace Go.Proofs.YtmbkabgllafffaaGreat
open K Go Go.Proofs
def mA(k:Nat)(a0:(List Int)):Option bJ:=
 some (a0,0,1)
theorem vh(k:Nat)(a0:(List Int))(r:bJ)(h:mA k a0=some r):
 dz Tryz.prog 6 [.rep Tl a0] [] (λz:Nat=>(bN [Pt z],[.obj z 60 (.agg (.pair (.rep Tl r.1) (.pair (I r.2.1) (.eq (.int .u64 r.2.2)))))])):=by
 unfold mA at h
 replace h:=bg h
 refine dz.of 6 Tryz.func6 rfl Tryz.ntmps6 rfl λS w0=>?_
 refine sr ?_
 refine cq ?_
 refine nt ?_
 refine sr ?_
 refine mq ?_
 refine jb (eE [(0,.tmp 3,_),(2,.const (.int .u64 (1)),_)] rfl Tz Tm RY (jV ⟨rfl,rfl,trivial⟩) rfl) ?_
 refine aX rfl rfl rfl (wZ rfl trivial) ⟨rfl,trivial⟩ λb1=>?_
 refine aq ?_
 refine nt ?_
 refine aA ?_
 cases h
 exact aP b1 [Pt b1] 1 ⟨rfl,trivial⟩ rfl
def iC(k:Nat)(a0:bJ):Option (Int×bJ):=
 ((if a0.2.1 < (a0.1.length:Int) then((aF a0.1 a0.2.1).bind λx3=>
 some (IntKind.u64.wrap ((IntKind.u64.wrap ((IntKind.u64.wrap (a0.2.2 * 6364136223846793005))+1442695040888963407))+(IntKind.u64.wrap ((IntKind.u64.wrap x3) * 2862933555777941757))))) else(some (IntKind.u64.wrap ((IntKind.u64.wrap (a0.2.2 * 6364136223846793005))+1442695040888963407)))):Option (Int)).bind λx1=>
 (ck (a0.2.1+1)).bind λx4=>
 some (iF .u64 (tj .u64 (IntKind.u64.wrap ((tj .u64 x1 (iF .u64 x1 29)) * 2685821657736338717)) (iF .u64 (IntKind.u64.wrap ((tj .u64 x1 (iF .u64 x1 29)) * 2685821657736338717)) 32)) 8,(a0.1,x4,x1))
theorem tf(k:Nat)(a0:bJ)(c:Nat)(r:Int×bJ)(h:iC k a0=some r):
 dz Tryz.prog 34 [Pt c] [.obj c 60 (.agg (.pair (.rep Tl a0.1) (.pair (I a0.2.1) (.eq (.int .u64 a0.2.2)))))] (λ_:Unit=>(bN [.eq (.int .u64 r.1)],[.obj c 60 (.agg (.pair (.rep Tl r.2.1) (.pair (I r.2.2.1) (.eq (.int .u64 r.2.2.2)))))])):=by
 unfold iC at h
 replace h:=bg h
 refine dz.of 67 Tryz.func34 rfl Tryz.ntmps34 rfl λS w0=>?_
 refine sr ?_
 refine cq ?_
 refine nt ?_
 refine sr ?_
 iterate 2 refine mq ?_
 refine ja (cP rfl) ?_
 refine fl tu ?_
 refine lo E2 ?_
 refine jb (BV rfl) ?_
 refine jb (H3 rfl) ?_
 refine ja (cP rfl) ?_
 refine fl tu ?_
 refine aN rfl rfl (aI rfl E2 rfl rfl rfl) ⟨rfl,rfl,trivial⟩ ?_
 refine nt ?_
 refine aC (Z:=Unit) (α:=Int) (λz2 x1=>[(0,Pt c)]) (λz2 x1=>[.obj c 60 (.agg (.pair (.rep Tl a0.1) (.pair (I a0.2.1) (.eq (.int .u64 x1)))))]) h (λK h=>?_) (λz2 x1 h=>?_)
 .
  refine ak (cN ?_);refine dm ?_;refine da (cP rfl) ?_;refine da (aG rfl yv) ?_;refine ea 0 (ay rfl cF o8 rfl) ?_;refine dm ?_;refine da (cP rfl) ?_;refine da (aG rfl IU) ?_;refine ea 0 (ay rfl dN o8 rfl) ?_;refine da (rN rfl rfl ig) ?_;refine df dS ?_;refine jb (bo rfl) ?_;refine nt (ci h (λh=>?_) (λh=>?_))
  .refine cN ?_;refine dm ?_;refine dm ?_;refine da (cP rfl) ?_;refine da (aG rfl tu) ?_;refine ea 0 (ay rfl E2 o8 rfl) ?_;refine dm ?_;refine da (cP rfl) ?_;refine da (aG rfl IU) ?_;refine ea 0 (ay rfl dN o8 rfl) ?_;refine dm ?_;refine da (cP rfl) ?_;refine da (aG rfl yv) ?_;refine ea 0 (ay rfl cF o8 rfl) ?_;obtain⟨x3,j,h⟩:=aa h;refine db (aK (t:=Ti) rfl ig cF j) ?_;refine da (ao (t:=Ti) rfl cF rfl) ?_;refine da (sW rfl U3 SY) ?_;refine db (BV rfl) ?_;refine db (H3 rfl) ?_;refine df dS ?_;refine ja (cP rfl) ?_;refine fl tu ?_;refine aN rfl rfl (aI rfl E2 rfl rfl rfl) ⟨rfl,rfl,trivial⟩ ?_;refine nl ?_;exact jz ((),IntKind.u64.wrap ((IntKind.u64.wrap ((IntKind.u64.wrap (a0.2.2 * 6364136223846793005))+1442695040888963407))+(IntKind.u64.wrap ((IntKind.u64.wrap x3) * 2862933555777941757)))) h [0]
  .refine bi (au ?_);exact jz ((),IntKind.u64.wrap ((IntKind.u64.wrap (a0.2.2 * 6364136223846793005))+1442695040888963407)) h [0]
 .
  refine sr (mq ?_);refine ja (cP rfl) ?_;refine fl yv ?_;refine lo cF ?_;obtain⟨x4,e,h⟩:=aa h;refine jb (bj rfl e) ?_;refine ja (cP rfl) ?_;refine fl yv ?_;refine aN rfl rfl (aI rfl cF rfl rfl rfl) ⟨rfl,rfl,trivial⟩ ?_;refine nt (ak (cN ?_));refine dm ?_;refine da (cP rfl) ?_;refine da (aG rfl tu) ?_;refine ea 0 (ay rfl E2 o8 rfl) ?_;refine dm ?_;refine da (cP rfl) ?_;refine da (aG rfl tu) ?_;refine ea 0 (ay rfl E2 o8 rfl) ?_;refine fV rfl rfl rfl (uU rfl (by decide)) ⟨rfl,rfl,trivial⟩ ?_;refine df dS ?_;refine jb (NR rfl) ?_;refine aq (nt (sr ?_));refine mq ?_;refine jb (BV rfl) ?_;refine aq (nt (sr ?_));iterate 2 refine mq ?_
  refine cy rfl (uU rfl (by decide)) ⟨rfl,rfl,trivial⟩ ?_;refine jb (NR rfl) ?_;refine cy rfl (uU rfl (by decide)) ⟨rfl,rfl,trivial⟩ ?_;refine aq (nt (aA ?_));cases h;exact aP () [_] 1 ⟨rfl,trivial⟩ rfl
def bZ(k:Nat)(a0:bJ)(a1:Int):Option (Int×bJ):=
 if a1 < 1 then(some (0,(a0.1,a0.2.1,a0.2.2))) else((iC k (a0.1,a0.2.1,a0.2.2)).bind λr1=>
 (ck (a1+1)).bind λx2=>
 (cL ((IntKind.u64.wrap x2)≠0)).bind λ_=>
 (ck (Int.tmod r1.1 (IntKind.u64.wrap x2))).bind λx4=>
 some (x4,(r1.2.1,r1.2.2.1,r1.2.2.2)))
theorem cp(k:Nat)(a0:bJ)(c:Nat)(a1:Int)(r:Int×bJ)(h:bZ k a0 a1=some r):
 dz Tryz.prog 9 [Pt c,I a1] [.obj c 60 (.agg (.pair (.rep Tl a0.1) (.pair (I a0.2.1) (.eq (.int .u64 a0.2.2)))))] (λ_:Unit=>(bN [I r.1],[.obj c 60 (.agg (.pair (.rep Tl r.2.1) (.pair (I r.2.2.1) (.eq (.int .u64 r.2.2.2)))))])):=by
 unfold bZ at h
 replace h:=bg h
 refine dz.of 14 Tryz.func9 rfl Tryz.ntmps9 rfl λS w0=>?_
 refine sr ?_
 refine cq ?_
 refine nt ?_
 refine ak ?_
 refine sr ?_
 refine mq ?_
 refine jb (bo rfl) ?_
 refine nt ?_
 refine ci h (λh=>?_) (λh=>?_)
 .
  refine sr (cq (nt (rx ?_)));cases h;exact aP () [_] 1 ⟨rfl,trivial⟩ rfl
 .
  refine sk (sr (mq ?_));obtain⟨r1,n,h⟩:=aa h;refine ka (ax [.tmp 7] rfl rfl UB rfl (tf k (a0.1,a0.2.1,a0.2.2) c r1 n)) ?_;refine mq ?_;obtain⟨x2,j,h⟩:=aa h;refine jb (bj rfl j) ?_;refine ja (sW rfl U3 SY) ?_;obtain⟨u3,l,h⟩:=aa h;refine jb (QP rfl (am l)) ?_;obtain⟨x4,e,h⟩:=aa h;refine ja (zP rfl SY U3 e) ?_;refine aq (nt (aA ?_));cases h;exact aP () [_] 1 ⟨rfl,trivial⟩ rfl
def jv(k:Nat)(a0:(List Int)):Option (List Int):=
 (cL (bD (length ([]:(List Int))+length a0))).bind λ_=>
 some (([]:(List Int))++a0)
theorem ue(k:Nat)(a0:(List Int))(r:(List Int))(h:jv k a0=some r):
 dz Tryz.prog 83 [.rep Tl a0] [] (λz:Value=>(bN [.eq z],[.sl z 3 Ti r])):=by
 unfold jv at h
 replace h:=bg h
 refine dz.of 6 Tryz.func83 rfl Tryz.ntmps83 rfl λS w0=>?_
 refine sr ?_
 refine cq ?_
 refine nt ?_
 refine sr ?_
 refine aX rfl rfl rfl (lI (t:=Ti) [] ([]:(List Int)) rfl rfl dO .nil rfl rfl) trivial λv1=>?_
 refine mq ?_
 obtain⟨u2,c,h⟩:=aa h
 refine dK rfl rfl rfl (bV rfl rfl dO (am c)) ⟨rfl,rfl,trivial⟩ λv3=>?_
 refine aq ?_
 refine nt ?_
 refine aA ?_
 cases h
 exact aP v3 [.eq v3] 1 ⟨rfl,trivial⟩ rfl
def dQ(k:Nat)(a0:(List (List Int))):Nat->((List (List Int))×Int)->Option (List (List Int))
 |0,_=>none
 |n+1,y3=>
  if y3.2 < (a0.length:Int) then((aF a0 y3.2).bind λx5=>
  (jv k x5).bind λr6=>
  (cL (bD (length y3.1+length [r6]))).bind λ_=>
  (ck (y3.2+1)).bind λc=>
  dQ k a0 n (y3.1++[r6],c)) else(some y3.1)
def iE(k:Nat)(a0:(List (List Int))):Option (List (List Int)):=
 ((dQ k a0 k (([]:(List (List Int))),0)):Option ((List (List Int)))).bind λx1=>
 some x1
theorem ti(k:Nat)(a0:(List (List Int)))(r:(List (List Int)))(h:iE k a0=some r):
 dz Tryz.prog 49 [.rep (.slice Tl) a0] [] (λz:Value=>(bN [.eq z],[.sl z 22 Tl r])):=by
 unfold iE at h
 replace h:=bg h
 refine dz.of 20 Tryz.func49 rfl Tryz.ntmps49 rfl λS w0=>?_
 refine sr ?_
 refine cq ?_
 refine nt ?_
 refine sr ?_
 refine cq ?_
 refine nt ?_
 refine aC (Z:=Value) (α:=(List (List Int))) (λz2 x1=>[(3,.eq z2)]) (λz2 x1=>[.sl z2 22 Tl x1]) h (λK h=>?_) (λz2 x1 h=>?_)
 .
  refine sr (cq (nt (ai ?_)));refine f5 (SE.nil 22 Tl) ?_;refine aD (λz4 y3=>[(0,.rep (.slice Tl) a0),(3,.eq z4),(4,I y3.2)]) (λz4 y3=>[.sl z4 22 Tl y3.1]) (dQ k a0) k (.slice none 0 0) (([]:(List (List Int))),0) (λ_=>rfl) h (SE.fin [0] ⟨rfl,rfl,rfl,trivial⟩ rfl) (λn z4 y3 h=>?_);unfold dQ at h;refine ak (sr ?_);iterate 2 refine mq ?_
  refine ol mM ?_;refine jb (bo rfl) ?_;refine nt (ci h (λh=>?_) (λh=>?_))
  .refine sk (ak (ai (ab ?_)));iterate 3 refine mq ?_
   obtain⟨x5,j,h⟩:=aa h;refine jb (aK (t:=Tl) rfl mM dN j) ?_;refine ja (ao (t:=Tl) rfl dN rfl) ?_;obtain⟨r6,s,h⟩:=aa h;refine aX rfl rfl rfl (ax [.tmp 15] rfl rfl Ud rfl (ue k x5 r6 s)) ⟨rfl,trivial⟩ λv7=>?_;refine eg (ic [16] ⟨rfl,trivial⟩) ?_;refine ja (bb (t:=Tl) [(.tmp 16,_)] [r6] rfl rfl l9 (.cons rfl .rep .nil) rfl rfl) ?_;obtain⟨u8,l,h⟩:=aa h;refine dK rfl rfl rfl (bV rfl rfl l9 (am l)) ⟨rfl,rfl,trivial⟩ λv9=>?_;refine aq (aE (aO (tn (ab ?_))));refine mq ?_;obtain⟨e,c,h⟩:=aa h;refine jb (bj rfl c) ?_;refine aq (nl ?_);exact jz (v9,(y3.1++[r6],e)) h [0]
  .refine xa ?_;exact jz (z4,y3.1) h [0]
 .
  refine sr (mq ?_);refine aq (nt (aA ?_));cases h;exact aP z2 [.eq z2] 1 ⟨rfl,trivial⟩ rfl
def fZ(k:Nat)(a0:bJ)(a1:Int)(a2:Int):Option (Int×bJ):=
 (ck (a2 - a1)).bind λx1=>
 (bZ k (a0.1,a0.2.1,a0.2.2) x1).bind λr2=>
 (ck (a1+r2.1)).bind λx3=>
 some (x3,(r2.2.1,r2.2.2.1,r2.2.2.2))
theorem ju(k:Nat)(a0:bJ)(c:Nat)(a1:Int)(a2:Int)(r:Int×bJ)(h:fZ k a0 a1 a2=some r):
 dz Tryz.prog 57 [Pt c,I a1,I a2] [.obj c 60 (.agg (.pair (.rep Tl a0.1) (.pair (I a0.2.1) (.eq (.int .u64 a0.2.2)))))] (λ_:Unit=>(bN [I r.1],[.obj c 60 (.agg (.pair (.rep Tl r.2.1) (.pair (I r.2.2.1) (.eq (.int .u64 r.2.2.2)))))])):=by
 unfold fZ at h
 replace h:=bg h
 refine dz.of 14 Tryz.func57 rfl Tryz.ntmps57 rfl λS w0=>?_
 refine sr ?_
 refine cq ?_
 refine nt ?_
 refine sr ?_
 iterate 4 refine mq ?_
 obtain⟨x1,j,h⟩:=aa h
 refine jb (dL rfl j) ?_
 obtain⟨r2,l,h⟩:=aa h
 have n:=cp k (a0.1,a0.2.1,a0.2.2) c x1 r2 l
 refine kb (ax [.tmp 8,.tmp 11] rfl rfl I1 rfl n) ?_
 obtain⟨x3,e,h⟩:=aa h
 refine jb (bj rfl e) ?_
 refine aq ?_
 refine nt ?_
 refine aA ?_
 cases h
 exact aP () [_] 1 ⟨rfl,trivial⟩ rfl
def ia(k:Nat)(a0:bJ)(a1:(List Int)):Option (Int×bJ):=
 (ck ((a1.length:Int) - 1)).bind λx1=>
 (bZ k (a0.1,a0.2.1,a0.2.2) x1).bind λr2=>
 (aF a1 r2.1).bind λx3=>
 some (x3,(r2.2.1,r2.2.2.1,r2.2.2.2))
theorem lP(k:Nat)(a0:bJ)(c:Nat)(a1:(List Int))(r:Int×bJ)(h:ia k a0 a1=some r):
 dz Tryz.prog 58 [Pt c,.rep Tl a1] [.obj c 60 (.agg (.pair (.rep Tl a0.1) (.pair (I a0.2.1) (.eq (.int .u64 a0.2.2)))))] (λ_:Unit=>(bN [I r.1],[.obj c 60 (.agg (.pair (.rep Tl r.2.1) (.pair (I r.2.2.1) (.eq (.int .u64 r.2.2.2)))))])):=by
 unfold ia at h
 replace h:=bg h
 refine dz.of 13 Tryz.func58 rfl Tryz.ntmps58 rfl λS w0=>?_
 refine sr ?_
 refine cq ?_
 refine nt ?_
 refine sr ?_
 iterate 3 refine mq ?_
 refine ol ig ?_
 obtain⟨x1,j,h⟩:=aa h
 refine jb (dL rfl j) ?_
 obtain⟨r2,l,h⟩:=aa h
 have n:=cp k (a0.1,a0.2.1,a0.2.2) c x1 r2 l
 refine kb (ax [.tmp 6,.tmp 9] rfl rfl I1 rfl n) ?_
 obtain⟨x3,e,h⟩:=aa h
 refine jb (aK (t:=Ti) rfl ig cF e) ?_
 refine ja (ao (t:=Ti) rfl cF rfl) ?_
 refine aq ?_
 refine nt ?_
 refine aA ?_
 cases h
 exact aP () [_] 1 ⟨rfl,trivial⟩ rfl
def eM(k:Nat)(a0:bJ)(a1:Int):Option (Bool×bJ):=
 (ck (a1 - 1)).bind λx1=>
 (bZ k (a0.1,a0.2.1,a0.2.2) x1).bind λr2=>
 some (decide (r2.1=0),(r2.2.1,r2.2.2.1,r2.2.2.2))
theorem im(k:Nat)(a0:bJ)(c:Nat)(a1:Int)(r:Bool×bJ)(h:eM k a0 a1=some r):
 dz Tryz.prog 59 [Pt c,I a1] [.obj c 60 (.agg (.pair (.rep Tl a0.1) (.pair (I a0.2.1) (.eq (.int .u64 a0.2.2)))))] (λ_:Unit=>(bN [.eq (.bool r.1)],[.obj c 60 (.agg (.pair (.rep Tl r.2.1) (.pair (I r.2.2.1) (.eq (.int .u64 r.2.2.2)))))])):=by
 unfold eM at h
 replace h:=bg h
 refine dz.of 10 Tryz.func59 rfl Tryz.ntmps59 rfl λS w0=>?_
 refine sr ?_
 refine cq ?_
 refine nt ?_
 refine sr ?_
 iterate 2 refine mq ?_
 obtain⟨x1,e,h⟩:=aa h
 refine jb (dL rfl e) ?_
 obtain⟨r2,j,h⟩:=aa h
 have l:=cp k (a0.1,a0.2.1,a0.2.2) c x1 r2 j
 refine kb (ax [.tmp 5,.tmp 7] rfl rfl I1 rfl l) ?_
 refine jb (jm rfl) ?_
 refine aq ?_
 refine nt ?_
 refine aA ?_
 cases h
 exact aP () [_] 1 ⟨rfl,trivial⟩ rfl
def eo(k:Nat)(a1:Int):Nat->((List Int)×Int×Int×(List Int)×Int)->Option ((List Int)×(List Int)×Int×Int)
 |0,_=>none
 |n+1,y3=>
  if y3.2.2.2.2 < a1 then((bZ k (y3.1,y3.2.1,y3.2.2.1) y3.2.2.2.2).bind λr5=>
  (cL (bD (length y3.2.2.2.1+length [y3.2.2.2.2]))).bind λ_=>
  (aF (y3.2.2.2.1++[y3.2.2.2.2]) r5.1).bind λx8=>
  (aF (y3.2.2.2.1++[y3.2.2.2.2]) y3.2.2.2.2).bind λx9=>
  (aF (List.set (y3.2.2.2.1++[y3.2.2.2.2]) (Int.toNat y3.2.2.2.2) x8) r5.1).bind λe=>
  (ck (y3.2.2.2.2+1)).bind λc=>
  eo k a1 n (r5.2.1,r5.2.2.1,r5.2.2.2,List.set (List.set (y3.2.2.2.1++[y3.2.2.2.2]) (Int.toNat y3.2.2.2.2) x8) (Int.toNat r5.1) y3.2.2.2.2,c)) else(some (y3.2.2.2.1,y3.1,y3.2.1,y3.2.2.1))
def ib(k:Nat)(a0:bJ)(a1:Int):Option ((List Int)×bJ):=
 ((eo k a1 k (a0.1,a0.2.1,a0.2.2,([]:(List Int)),0)):Option ((List Int)×(List Int)×Int×Int)).bind λx1=>
 some (x1.1,(x1.2.1,x1.2.2.1,x1.2.2.2))
theorem sa(k:Nat)(a0:bJ)(c:Nat)(a1:Int)(r:(List Int)×bJ)(h:ib k a0 a1=some r):
 dz Tryz.prog 87 [Pt c,I a1] [.obj c 60 (.agg (.pair (.rep Tl a0.1) (.pair (I a0.2.1) (.eq (.int .u64 a0.2.2)))))] (λ_:Unit=>(bN [.rep Tl r.1],[.obj c 60 (.agg (.pair (.rep Tl r.2.1) (.pair (I r.2.2.1) (.eq (.int .u64 r.2.2.2)))))])):=by
 unfold ib at h
 replace h:=bg h
 refine dz.of 32 Tryz.func87 rfl Tryz.ntmps87 rfl λS w0=>?_
 refine sr ?_
 refine cq ?_
 refine nt ?_
 refine sr ?_
 refine cq ?_
 refine nt ?_
 refine aC (Z:=Value) (α:=(List Int)×(List Int)×Int×Int) (λz2 x1=>[(5,.eq z2)]) (λz2 x1=>[.sl z2 3 Ti x1.1,.obj c 60 (.agg (.pair (.rep Tl x1.2.1) (.pair (I x1.2.2.1) (.eq (.int .u64 x1.2.2.2)))))]) h (λK h=>?_) (λz2 x1 h=>?_)
 .
  refine sr (cq (nt (ai ?_)));refine f5 (SE.nil 3 Ti) ?_;refine aD (λz4 y3=>[(0,Pt c),(1,I a1),(5,.eq z4),(6,I y3.2.2.2.2)]) (λz4 y3=>[.obj c 60 (.agg (.pair (.rep Tl y3.1) (.pair (I y3.2.1) (.eq (.int .u64 y3.2.2.1))))),.sl z4 3 Ti y3.2.2.2.1]) (eo k a1) k (.slice none 0 0) (a0.1,a0.2.1,a0.2.2,([]:(List Int)),0) (λ_=>rfl) h (SE.fin [1,0] ⟨rfl,rfl,rfl,rfl,trivial⟩ rfl) (λn z4 y3 h=>?_);unfold eo at h;refine ak (sr ?_);iterate 2 refine mq ?_
  refine jb (bo rfl) ?_;refine nt (ci h (λh=>?_) (λh=>?_))
  .refine sk (ak (ai (sr ?_)));iterate 2 refine mq ?_
   obtain⟨r5,y,h⟩:=aa h;refine kb (ax [.tmp 13,.tmp 14] rfl rfl I1 rfl (cp k (y3.1,y3.2.1,y3.2.2.1) c y3.2.2.2.2 r5 y)) ?_;refine aq (nt (sr ?_));iterate 2 refine mq ?_
   refine ja (bb (t:=Ti) [(.tmp 17,_)] [y3.2.2.2.2] rfl rfl dO (.cons rfl .int .nil) rfl rfl) ?_;obtain⟨u6,x,h⟩:=aa h;refine fr 1 ?_;refine dK rfl rfl rfl (bV rfl rfl dO (am x)) ⟨rfl,rfl,trivial⟩ λv7=>?_;refine aq (nt (ab ?_));iterate 6 refine mq ?_
   obtain⟨x8,l,h⟩:=aa h;refine kb (bA (t:=Ti) rfl ig cF l) ?_;refine ka (ek (i:=Int.toNat r5.1) (off:=0) rfl cF (λ_=>rfl) rfl (dR l).2.2 rfl) ?_;refine mq ?_;obtain⟨x9,j,h⟩:=aa h;refine kb (bA (t:=Ti) rfl ig cF j) ?_;refine aN rfl rfl (fj (i:=Int.toNat y3.2.2.2.2) rfl cF rfl (oa j) rfl .int rfl) ⟨rfl,rfl,trivial⟩ ?_;obtain⟨D,e,h⟩:=aa h;refine kb (bA (t:=Ti) rfl ig cF e) ?_;refine aN rfl rfl (fj (i:=Int.toNat r5.1) rfl cF rfl (oa e) rfl .int rfl) ⟨rfl,rfl,trivial⟩ ?_;refine aE (aO (tn (ab (mq ?_))));obtain⟨u,s,h⟩:=aa h;refine jb (bj rfl s) ?_;refine aq (nl ?_);exact jz (v7,(r5.2.1,r5.2.2.1,r5.2.2.2,List.set (List.set (y3.2.2.2.1++[y3.2.2.2.2]) (Int.toNat y3.2.2.2.2) x8) (Int.toNat r5.1) y3.2.2.2.2,u)) h [1,0]
  .refine xa ?_;exact jz (z4,(y3.2.2.2.1,y3.1,y3.2.1,y3.2.2.1)) h [1,0]
 .
  refine sr (mq ?_);refine aq (nt (aA ?_));refine bK (ic [4,5,31] ⟨rfl,rfl,rfl,trivial⟩) ?_;cases h;exact aP () [_] 1 ⟨rfl,trivial⟩ rfl
def fQ(k:Nat)(a1:Int):Nat->((List Int)×Int×Int×(List Int)×Int)->Option ((List Int)×(List Int)×Int×Int)
 |0,_=>none
 |n+1,y3=>
  if y3.2.2.2.2 < a1 then((((eM k (y3.1,y3.2.1,y3.2.2.1) 3).bind λr7=>
  if r7.1=true then((cL (bD (length y3.2.2.2.1+length [y3.2.2.2.2]))).bind λ_=>
  some (r7.2.1,r7.2.2.1,r7.2.2.2,y3.2.2.2.1++[y3.2.2.2.2])) else(some (r7.2.1,r7.2.2.1,r7.2.2.2,y3.2.2.2.1))):Option ((List Int)×Int×Int×(List Int))).bind λx5=>
  (ck (y3.2.2.2.2+1)).bind λc=>
  fQ k a1 n (x5.1,x5.2.1,x5.2.2.1,x5.2.2.2,c)) else(some (y3.2.2.2.1,y3.1,y3.2.1,y3.2.2.1))
def kh(k:Nat)(a0:bJ)(a1:Int):Option ((List Int)×bJ):=
 ((fQ k a1 k (a0.1,a0.2.1,a0.2.2,([]:(List Int)),0)):Option ((List Int)×(List Int)×Int×Int)).bind λx1=>
 some (x1.1,(x1.2.1,x1.2.2.1,x1.2.2.2))
theorem vl(k:Nat)(a0:bJ)(c:Nat)(a1:Int)(r:(List Int)×bJ)(h:kh k a0 a1=some r):
 dz Tryz.prog 27 [Pt c,I a1] [.obj c 60 (.agg (.pair (.rep Tl a0.1) (.pair (I a0.2.1) (.eq (.int .u64 a0.2.2)))))] (λ_:Unit=>(bN [.rep Tl r.1],[.obj c 60 (.agg (.pair (.rep Tl r.2.1) (.pair (I r.2.2.1) (.eq (.int .u64 r.2.2.2)))))])):=by
 unfold kh at h
 replace h:=bg h
 refine dz.of 19 Tryz.func27 rfl Tryz.ntmps27 rfl λS w0=>?_
 refine sr ?_
 refine cq ?_
 refine nt ?_
 refine sr ?_
 refine cq ?_
 refine nt ?_
 refine aC (Z:=Value) (α:=(List Int)×(List Int)×Int×Int) (λz2 x1=>[(5,.eq z2)]) (λz2 x1=>[.sl z2 3 Ti x1.1,.obj c 60 (.agg (.pair (.rep Tl x1.2.1) (.pair (I x1.2.2.1) (.eq (.int .u64 x1.2.2.2)))))]) h (λK h=>?_) (λz2 x1 h=>?_)
 .
  refine sr (cq (nt (ai ?_)));refine f5 (SE.nil 3 Ti) ?_;refine aD (λz4 y3=>[(0,Pt c),(1,I a1),(5,.eq z4),(6,I y3.2.2.2.2)]) (λz4 y3=>[.obj c 60 (.agg (.pair (.rep Tl y3.1) (.pair (I y3.2.1) (.eq (.int .u64 y3.2.2.1))))),.sl z4 3 Ti y3.2.2.2.1]) (fQ k a1) k (.slice none 0 0) (a0.1,a0.2.1,a0.2.2,([]:(List Int)),0) (λ_=>rfl) h (SE.fin [1,0] ⟨rfl,rfl,rfl,rfl,trivial⟩ rfl) (λn z4 y3 h=>?_);unfold fQ at h;refine ak (sr ?_);iterate 2 refine mq ?_
  refine jb (bo rfl) ?_;refine nt (ci h (λh=>?_) (λh=>?_))
  .refine sk (aC (Z:=Value) (α:=(List Int)×Int×Int×(List Int)) (λz6 x5=>[(0,Pt c),(1,I a1),(5,.eq z6),(6,I y3.2.2.2.2)]) (λz6 x5=>[.obj c 60 (.agg (.pair (.rep Tl x5.1) (.pair (I x5.2.1) (.eq (.int .u64 x5.2.2.1))))),.sl z6 3 Ti x5.2.2.2]) h (λK h=>?_) (λz6 x5 h=>?_))
   .refine ai (sr (mq ?_));obtain⟨r7,s,h⟩:=aa h;refine kb (ax [.tmp 12,.const (.int .i64 (3))] rfl rfl L6 rfl (im k (y3.1,y3.2.1,y3.2.2.1) c 3 r7 s)) ?_;refine nt (cv h (λh=>?_) (λh=>?_))
    .refine ab ?_;iterate 2 refine mq ?_
     refine ja (bb (t:=Ti) [(.tmp 15,_)] [y3.2.2.2.2] rfl rfl dO (.cons rfl .int .nil) rfl rfl) ?_;obtain⟨u8,l,h⟩:=aa h;refine fr 1 ?_;refine dK rfl rfl rfl (bV rfl rfl dO (am l)) ⟨rfl,rfl,trivial⟩ λv9=>?_;refine aq (aE (bn ?_));exact jz (v9,(r7.2.1,r7.2.2.1,r7.2.2.2,y3.2.2.2.1++[y3.2.2.2.2])) h [1,0]
    .refine bi (bn ?_);exact jz (z4,(r7.2.1,r7.2.2.1,r7.2.2.2,y3.2.2.2.1)) h [0,1]
   .refine ab (mq ?_);obtain⟨j,e,h⟩:=aa h;refine jb (bj rfl e) ?_;refine aq (nl ?_);exact jz (z6,(x5.1,x5.2.1,x5.2.2.1,x5.2.2.2,j)) h [0,1]
  .refine xa ?_;exact jz (z4,(y3.2.2.2.1,y3.1,y3.2.1,y3.2.2.1)) h [1,0]
 .
  refine sr (mq ?_);refine aq (nt (aA ?_));refine bK (ic [4,5,18] ⟨rfl,rfl,rfl,trivial⟩) ?_;cases h;exact aP () [_] 1 ⟨rfl,trivial⟩ rfl
def dP(k:Nat)(a0:Int)(a1:Int)(a2:Int):Option Bool:=
 ((if a1≤a0 then(some (decide (a0≤a2))) else(some false)):Option (Bool)).bind λx1=>
 some x1
theorem dY(k:Nat)(a0:Int)(a1:Int)(a2:Int)(r:Bool)(h:dP k a0 a1 a2=some r):
 dz Tryz.prog 64 [I a0,I a1,I a2] [] (λ_:Unit=>(bN [.eq (.bool r)],[])):=by
 unfold dP at h
 replace h:=bg h
 refine dz.of 15 Tryz.func64 rfl Tryz.ntmps64 rfl λS w0=>?_
 refine sr ?_
 refine cq ?_
 refine nt ?_
 refine aC (Z:=Unit) (α:=Bool) (λz2 x1=>[(6,.eq (.bool x1))]) (λz2 x1=>[]) h (λK h=>?_) (λz2 x1 h=>?_)
 .
  refine ab ?_;iterate 2 refine mq ?_
  refine jb (zN rfl) ?_;refine mq ?_;refine cj (s:=10) rfl (λhb=>?_) (λhb=>?_)
  .replace h:=eQ (sG hb) h;refine gm ?_;refine gm ?_;refine gb (zN rfl) ?_;refine pt ?_;refine aq (nl ?_);exact jz ((),decide (a0≤a2)) h []
  .replace h:=cQ (sH hb) h;iterate 3 refine gn ?_
   refine pf ?_;refine aq (nl ?_);exact jz ((),false) h []
 .
  refine aA ?_;cases h;exact ra
def gh(k:Nat)(a0:Int)(a1:Int):Option Int:=
 (cL (0≤a1)).bind λ_=>
 some (D6 .u8 a0 (pn .u8 1 a1))
theorem kG(k:Nat)(a0:Int)(a1:Int)(r:Int)(h:gh k a0 a1=some r):
 dz Tryz.prog 65 [.eq (.int .u8 a0),I a1] [] (λ_:Unit=>(bN [.eq (.int .u8 r)],[])):=by
 unfold gh at h
 replace h:=bg h
 refine dz.of 9 Tryz.func65 rfl Tryz.ntmps65 rfl λS w0=>?_
 refine sr ?_
 refine cq ?_
 refine nt ?_
 refine sr ?_
 iterate 2 refine mq ?_
 obtain⟨u1,c,h⟩:=aa h
 refine jb (NS rfl (am c)) ?_
 refine jb (TA rfl) ?_
 refine aq ?_
 refine nt ?_
 refine aA ?_
 cases h
 exact ra
def eI(k:Nat)(a0:Int)(a1:Int):Option Bool:=
 (cL (0≤a1)).bind λ_=>
 some (decide ((qX .u8 (iF .u8 a0 a1) 1)=1))
theorem g9(k:Nat)(a0:Int)(a1:Int)(r:Bool)(h:eI k a0 a1=some r):
 dz Tryz.prog 69 [.eq (.int .u8 a0),I a1] [] (λ_:Unit=>(bN [.eq (.bool r)],[])):=by
 unfold eI at h
 replace h:=bg h
 refine dz.of 10 Tryz.func69 rfl Tryz.ntmps69 rfl λS w0=>?_
 refine sr ?_
 refine cq ?_
 refine nt ?_
 refine sr ?_
 iterate 2 refine mq ?_
 obtain⟨u1,c,h⟩:=aa h
 refine jb (uU rfl (am c)) ?_
 refine jb (QT rfl) ?_
 refine jb (jm rfl) ?_
 refine aq ?_
 refine nt ?_
 refine aA ?_
 cases h
 exact ra
def di(k:Nat)(a0:ae)(x8:(List Int)):Nat->(Int×Int)->Option (Except Int Int)
 |0,_=>none
 |n+1,y9=>
  if y9.2 < (x8.length:Int) then((aF x8 y9.2).bind λc=>
  (ck (a0.1 - 1)).bind λh=>
  (dP k c 0 h).bind λr=>
  if¬(r=true) then(some (.error 3)) else((eI k y9.1 c).bind λl=>
  if l=true then(some (.error 4)) else((gh k y9.1 c).bind λj=>
  (ck (y9.2+1)).bind λe=>
  di k a0 x8 n (j,e)))) else(some (.ok y9.1))
def dj(k:Nat)(a0:ae)(a1:(List (List Int))):Nat->(Int×Int)->Option (Except Int Unit)
 |0,_=>none
 |n+1,y4=>
  if y4.2 < (a1.length:Int) then(bE (α:=Int) ((aF a1 y4.2).bind λx8=>
  di k a0 x8 k (y4.1,0)) (λe=>some (.error e)) λx6=>
  (ck (y4.2+1)).bind λc=>
  dj k a0 a1 n (x6,c)) else(some (.ok ()))
def jq(k:Nat)(a0:ae)(a1:(List (List Int))):Option Int:=
 if 3 < (a1.length:Int) then(some 6) else(bE (α:=Unit) (dj k a0 a1 k (0,0)) (some) λ_=>
 some 0)
theorem uc(k:Nat)(a0:ae)(a1:(List (List Int)))(r:Int)(h:jq k a0 a1=some r):
 dz Tryz.prog 92 [.rep an a0,.rep (.slice Tl) a1] [] (λ_:Unit=>(bN [I r],[])):=by
 unfold jq at h
 replace h:=bg h
 refine dz.of 39 Tryz.func92 rfl Tryz.ntmps92 rfl λS w0=>?_
 refine sr ?_
 refine bx λb1=>?_
 refine cq ?_
 refine nt ?_
 refine ak ?_
 refine sr ?_
 refine mq ?_
 refine ol mM ?_
 refine jb (nm rfl) ?_
 refine nt ?_
 refine ci h (λh=>?_) (λh=>?_)
 .
  refine sr (cq (nt (rx ?_)));cases h;exact ra
 .
  refine sk (sr (cq (nt ?_)));refine dk (Z:=Unit) (α:=Unit) (λz3 x2=>[]) (λz3 x2=>[]) (λe=>e=r) h (λe h=>Option.some.inj h) (λK hR h=>?_) (λz3 x2 h=>?_)
  .refine sr (mq ?_);refine ol mM ?_;refine fH rfl ?_;refine nt (ai (aD (λz5 y4=>[(2,Pt b1),(5,.eq (.int .u8 y4.1)),(13,.rep (.slice Tl) a1),(14,I (a1.length:Int)),(15,I y4.2)]) (λz5 y4=>[.obj b1 28 (.rep an a0)]) (dj k a0 a1) k () (0,0) (λ_=>rfl) h (SE.fin [0] ⟨rfl,rfl,rfl,rfl,rfl,trivial⟩ rfl) (λn z5 y4 h=>?_)));unfold dj at h;refine sr (jb (bo rfl) ?_);refine nt (ak (ci h (λh=>?_) (λh=>?_)))
   .refine sk (dk (Z:=Unit) (α:=Int) (λz7 x6=>[(2,Pt b1),(5,.eq (.int .u8 x6)),(13,.rep (.slice Tl) a1),(14,I (a1.length:Int)),(15,I y4.2)]) (λz7 x6=>[.obj b1 28 (.rep an a0)]) (λe=>e=r) h (λe h=>hR e h) (λK hR h=>?_) (λz7 x6 h=>?_))
    .refine ai (sr ?_);obtain⟨x8,X,h⟩:=aa h;refine jb (aK (t:=Tl) rfl mM dN X) ?_;refine ja (ao (t:=Tl) rfl dN rfl) ?_;refine aq (nt (sr ?_));refine mq ?_;refine ol ig ?_;refine fH rfl ?_;refine nt (ai (aD (λj y9=>[(2,Pt b1),(5,.eq (.int .u8 y9.1)),(13,.rep (.slice Tl) a1),(14,I (a1.length:Int)),(15,I y4.2),(19,.rep Tl x8),(20,I (x8.length:Int)),(21,I y9.2)]) (λj y9=>[.obj b1 28 (.rep an a0)]) (di k a0 x8) k () (y4.1,0) (λ_=>rfl) h (SE.fin [0] ⟨rfl,rfl,rfl,rfl,rfl,rfl,rfl,rfl,trivial⟩ rfl) (λn j y9 h=>?_)));unfold di at h;refine sr (jb (bo rfl) ?_);refine nt (ak (ci h (λh=>?_) (λh=>?_)))
     .refine sk (ak (ai (sr ?_)));obtain⟨c,y,h⟩:=aa h;refine jb (aK (t:=Ti) rfl ig cF y) ?_;refine ja (ao (t:=Ti) rfl cF rfl) ?_;refine aq (nt (ak (sr ?_)));refine mq ?_;refine fl gG ?_;refine lo cF ?_;obtain⟨O,x,h⟩:=aa h;refine jb (dL rfl x) ?_;obtain⟨U,F,h⟩:=aa h;refine jc (ax [.tmp 25,.const (.int .i64 (0)),.tmp 28] rfl rfl yC rfl (dY k c 0 O U F)) ?_;refine ja (gZ rfl) ?_;refine nt (cw h (λh=>?_) (λh=>?_))
      .refine sr (cq (nt (rx (br (bB (br (bB (bv ?_))))))));obtain rfl:=hR _ h;exact ra
      .refine sk (ak (sr ?_));iterate 2 refine mq ?_
       obtain⟨Q,E,h⟩:=aa h;refine jb (ax [.tmp 31,.tmp 32] rfl rfl I2 rfl (g9 k y9.1 c Q E)) ?_;refine nt (cv h (λh=>?_) (λh=>?_))
       .refine sr (cq (nt (rx (br (bB (br (bB (bv ?_))))))));obtain rfl:=hR _ h;exact ra
       .refine sk (ab ?_);iterate 2 refine mq ?_
        obtain⟨l,D,h⟩:=aa h;refine jb (ax [.tmp 34,.tmp 35] rfl rfl PE rfl (kG k y9.1 c l D)) ?_;refine aq (aE (aO (tn (ab ?_))));obtain⟨M,u,h⟩:=aa h;refine jb (bj rfl u) ?_;refine mq (nl ?_);exact jz ((),(l,M)) h [0]
     .refine fK (bM (bM (c6 (bn ?_))));exact jz ((),y9.1) h [0]
    .refine ab ?_;obtain⟨J,s,h⟩:=aa h;refine jb (bj rfl s) ?_;refine mq (nl ?_);exact jz ((),(x6,J)) h [0]
   .refine xa ?_;exact jz ((),()) h []
  .refine sr (cq (nt (aA ?_)));cases h;exact ra
def gy(k:Nat)(a0:ae)(a1:bp):Option Int:=
 (((ck (a0.1 - 1)).bind λx5=>
 (dP k a1.1 0 x5).bind λr6=>
 if¬(r6=true) then(some true) else((dP k a1.2.1 0 (a0.2.2.2.2.1.length:Int)).bind λr7=>
 some (!r7))):Option (Bool)).bind λx3=>
 if x3=true then(some 3) else(some 0)
theorem qT(k:Nat)(a0:ae)(a1:bp)(r:Int)(h:gy k a0 a1=some r):
 dz Tryz.prog 93 [.rep an a0,.rep aR a1] [] (λ_:Unit=>(bN [I r],[])):=by
 unfold gy at h
 replace h:=bg h
 refine dz.of 21 Tryz.func93 rfl Tryz.ntmps93 rfl λS w0=>?_
 refine sr ?_
 refine bx λb1=>?_
 refine bx λb2=>?_
 refine cq ?_
 refine nt ?_
 refine ak ?_
 refine aC (Z:=Unit) (α:=Bool) (λz4 x3=>[(20,.eq (.bool x3))]) (λz4 x3=>[]) h (λK h=>?_) (λz4 x3 h=>?_)
 .
  refine ab (fl CQ ?_);refine lo cF ?_;refine fl gG ?_;refine fr 1 ?_;refine lo cF ?_;obtain⟨x5,c,h⟩:=aa h;refine jb (dL rfl c) ?_;obtain⟨r6,j,h⟩:=aa h;refine jc (ax [.tmp 6,.const (.int .i64 (0)),.tmp 9] rfl rfl yC rfl (dY k a1.1 0 x5 r6 j)) ?_;refine ja (gZ rfl) ?_;refine mq ?_;refine cj (s:=12) rfl (λhb=>?_) (λhb=>?_)
  .replace h:=eQ (zQ hb) h;iterate 7 refine gn ?_
   refine pt (nl ?_);exact jz ((),true) h []
  .replace h:=cQ (tQ hb) h;refine ga (aG rfl CP) ?_;refine fr 1 ?_;refine mY rfl rfl rfl rfl rfl rfl (ay rfl cF o8 rfl) ⟨rfl,trivial⟩ ?_;refine ga (aG rfl dh) ?_;refine fr 1 ?_;refine mY rfl rfl rfl rfl rfl rfl (ay rfl ix o8 rfl) ⟨rfl,trivial⟩ ?_;refine ga (rN rfl rfl vG) ?_;obtain⟨r7,e,h⟩:=aa h;refine gc (ax [.tmp 14,.const (.int .i64 (0)),.tmp 17] rfl rfl yC rfl (dY k a1.2.1 0 (a0.2.2.2.2.1.length:Int) r7 e)) ?_;refine ga (gZ rfl) ?_;refine pf (nl ?_);exact jz ((), !r7) h []
 .
  refine cv h (λh=>?_) (λh=>?_)
  .refine sr (cq (nt (rx ?_)));cases h;exact ra
  .refine sk (sr (cq (nt (aA ?_))));cases h;exact ra
def fy(k:Nat)(a0:ae):Nat->Int->Option (Except Int Unit)
 |0,_=>none
 |n+1,c=>
  if c < (a0.2.2.2.2.1.length:Int) then((aF a0.2.2.2.2.1 c).bind λj=>
  (jq k a0 j).bind λe=>
  if¬(e=0) then(some (.error e)) else((ck (c+1)).bind λh=>
  fy k a0 n h)) else(some (.ok ()))
def fx(k:Nat)(a0:ae):Nat->Int->Option (Except Int Unit)
 |0,_=>none
 |n+1,c=>
  if c < (a0.2.2.2.2.2.length:Int) then((aF a0.2.2.2.2.2 c).bind λj=>
  (gy k a0 j).bind λe=>
  if¬(e=0) then(some (.error e)) else((ck (c+1)).bind λh=>
  fx k a0 n h)) else(some (.ok ()))
def nq(k:Nat)(a0:ae):Option Int:=
 (((dP k a0.1 1 5).bind λr4=>
 if¬(r4=true) then(some true) else((dP k a0.2.1 0 3).bind λr5=>
 if¬(r5=true) then(some true) else((dP k a0.2.2.1 0 3).bind λr6=>
 if¬(r6=true) then(some true) else((dP k a0.2.2.2.1 1 3).bind λr7=>
 some (!r7))))):Option (Bool)).bind λx2=>
 if x2=true then(some 1) else(if(a0.2.2.2.2.1.length:Int) < 1 then(some 7) else(if 6 < (a0.2.2.2.2.1.length:Int) then(some 6) else(bE (α:=Unit) (fy k a0 k 0) (some) λ_=>
 if 8 < (a0.2.2.2.2.2.length:Int) then(some 6) else(bE (α:=Unit) (fx k a0 k 0) (some) λ_=>
 some 0))))
theorem yi(k:Nat)(a0:ae)(r:Int)(h:nq k a0=some r):
 dz Tryz.prog 63 [.rep an a0] [] (λ_:Unit=>(bN [I r],[])):=by
 unfold nq at h
 replace h:=bg h
 refine dz.of 73 Tryz.func63 rfl Tryz.ntmps63 rfl λS w0=>?_
 refine sr ?_
 refine bx λb1=>?_
 refine cq ?_
 refine nt ?_
 refine ak ?_
 refine aC (Z:=Unit) (α:=Bool) (λz3 x2=>[(1,Pt b1),(31,.eq (.bool x2))]) (λz3 x2=>[.obj b1 28 (.rep an a0)]) h (λK h=>?_) (λz3 x2 h=>?_)
 .
  refine ab (fl gG ?_);refine lo cF ?_;obtain⟨r4,Vt,h⟩:=aa h;refine jc (ax [.tmp 11,.const (.int .i64 (1)),.const (.int .i64 (5))] rfl rfl yC rfl (dY k a0.1 1 5 r4 Vt)) ?_;refine ja (gZ rfl) ?_;refine mq ?_;refine cj (s:=14) rfl (λhb=>?_) (λhb=>?_)
  .replace h:=eQ (zQ hb) h;iterate 4 refine gn ?_
   refine pt ?_;refine mq ?_;iterate 4 refine gn ?_
   refine pt ?_;refine mq ?_;iterate 4 refine gn ?_
   refine pt (nl ?_);exact jz ((),true) h [0]
  .replace h:=cQ (tQ hb) h;refine ga (aG rfl CS) ?_;refine mY rfl rfl rfl rfl rfl rfl (ay rfl cF o8 rfl) ⟨rfl,trivial⟩ ?_;obtain⟨r5,zz,h⟩:=aa h;refine gc (ax [.tmp 16,.const (.int .i64 (0)),.const (.int .i64 (3))] rfl rfl yC rfl (dY k a0.2.1 0 3 r5 zz)) ?_;refine ga (gZ rfl) ?_;refine pf ?_;refine mq ?_;refine cj (s:=20) rfl (λhb=>?_) (λhb=>?_)
   .replace h:=eQ (zQ hb) h;iterate 4 refine gn ?_
    refine pt ?_;refine mq ?_;iterate 4 refine gn ?_
    refine pt (nl ?_);exact jz ((),true) h [0]
   .replace h:=cQ (tQ hb) h;refine ga (aG rfl yw) ?_;refine mY rfl rfl rfl rfl rfl rfl (ay rfl cF o8 rfl) ⟨rfl,trivial⟩ ?_;obtain⟨r6,qt,h⟩:=aa h;refine gc (ax [.tmp 22,.const (.int .i64 (0)),.const (.int .i64 (3))] rfl rfl yC rfl (dY k a0.2.2.1 0 3 r6 qt)) ?_;refine ga (gZ rfl) ?_;refine pf ?_;refine mq ?_;refine cj (s:=26) rfl (λhb=>?_) (λhb=>?_)
    .replace h:=eQ (zQ hb) h;iterate 4 refine gn ?_
     refine pt (nl ?_);exact jz ((),true) h [0]
    .replace h:=cQ (tQ hb) h;refine ga (aG rfl IW) ?_;refine mY rfl rfl rfl rfl rfl rfl (ay rfl cF o8 rfl) ⟨rfl,trivial⟩ ?_;obtain⟨r7,mw,h⟩:=aa h;refine gc (ax [.tmp 28,.const (.int .i64 (1)),.const (.int .i64 (3))] rfl rfl yC rfl (dY k a0.2.2.2.1 1 3 r7 mw)) ?_;refine ga (gZ rfl) ?_;refine pf (nl ?_);exact jz ((), !r7) h [0]
 .
  refine cv h (λh=>?_) (λh=>?_)
  .refine sr (cq (nt (rx ?_)));cases h;exact ra
  .refine sk (ak (sr (fl dh ?_)));refine lo ix ?_;refine ol vG ?_;refine aq (nt (ai (sr ?_)));refine mq ?_;refine jb (bo rfl) ?_;refine aq (nt ?_);refine ci h (λh=>?_) (λh=>?_)
   .refine sr (cq (nt (aA (bB (bv ?_)))));cases h;exact ra
   .refine sr (mq ?_);refine jb (nm rfl) ?_;refine aq (nt ?_);refine ci h (λh=>?_) (λh=>?_)
    .refine sr (cq (nt (aA (bB (bv ?_)))));cases h;exact ra
    .refine bi (aO (tn (dk (Z:=Unit) (α:=Unit) (λz9 x8=>[(1,Pt b1)]) (λz9 x8=>[.obj b1 28 (.rep an a0)]) (λe=>e=r) h (λe h=>Option.some.inj h) (λK hR h=>?_) (λz9 x8 h=>?_))))
     .refine sr (fl dh ?_);refine lo ix ?_;refine ol vG ?_;refine fH rfl ?_;refine nt (ai (aD (λx j=>[(1,Pt b1),(42,.rep (.slice (.slice Tl)) a0.2.2.2.2.1),(43,I (a0.2.2.2.2.1.length:Int)),(44,I j)]) (λx j=>[.obj b1 28 (.rep an a0)]) (fy k a0) k () 0 (λ_=>rfl) h (SE.fin [0] ⟨rfl,rfl,rfl,rfl,trivial⟩ rfl) (λn x j h=>?_)));unfold fy at h;refine sr (jb (bo rfl) ?_);refine nt (ak (ci h (λh=>?_) (λh=>?_)))
      .refine sk (ak (ai (sr ?_)));obtain⟨Y,J,h⟩:=aa h;refine jb (aK (t:=(.slice Tl)) rfl vG qm J) ?_;refine ja (ao (t:=(.slice Tl)) rfl qm rfl) ?_;refine aq (nt (sr ?_));refine lo fE ?_;refine mq ?_;obtain⟨mc,O,h⟩:=aa h;refine jb (ax [.tmp 48,.tmp 49] rfl rfl Ub rfl (uc k a0 Y mc O)) ?_;refine aq (nt (sr ?_));refine mq ?_;refine jb (fL rfl) ?_;refine nt (cn h (λh=>?_) (λh=>?_))
       .refine sr (mq ?_);refine aq (nt (aA (br (bB (bv ?_)))));obtain rfl:=hR _ h;exact ra
       .refine bi (aO (tn (ab ?_)));obtain⟨X,F,h⟩:=aa h;refine jb (bj rfl F) ?_;refine mq (nl ?_);exact jz ((),X) h [0]
      .refine xa ?_;exact jz ((),()) h [0]
     .refine ak (sr (fl vu ?_));refine lo Hg ?_;refine ol R7 ?_;refine jb (nm rfl) ?_;refine nt (ci h (λh=>?_) (λh=>?_))
      .refine sr (cq (nt (rx ?_)));cases h;exact ra
      .refine sk (dk (Z:=Unit) (α:=Unit) (λu y=>[]) (λu y=>[]) (λe=>e=r) h (λe h=>Option.some.inj h) (λK hR h=>?_) (λu y h=>?_))
       .refine sr (fl vu ?_);refine lo Hg ?_;refine ol R7 ?_;refine fH rfl ?_;refine nt (ai (aD (λl c=>[(1,Pt b1),(60,Rs aR a0.2.2.2.2.2),(61,I (a0.2.2.2.2.2.length:Int)),(62,I c)]) (λl c=>[.obj b1 28 (.rep an a0)]) (fx k a0) k () 0 (λ_=>rfl) h (SE.fin [0] ⟨rfl,rfl,rfl,rfl,trivial⟩ rfl) (λn l c h=>?_)));unfold fx at h;refine sr (jb (bo rfl) ?_);refine nt (ak (ci h (λh=>?_) (λh=>?_)))
        .refine sk (ak (ai (sr ?_)));obtain⟨U,E,h⟩:=aa h;refine jb (aK (t:=aR) rfl R7 sM E) ?_;refine ja (ao (t:=aR) rfl sM rfl) ?_;refine aX rfl rfl rfl (be rfl Br Jj) trivial λVu=>?_;refine aN rfl rfl (aI rfl sM rfl rfl rfl) ⟨rfl,rfl,trivial⟩ ?_;refine nt (sr (fr 1 ?_));refine lo fE ?_;refine fr 1 ?_;refine lo sM ?_;obtain⟨gw,M,h⟩:=aa h;refine jb (ax [.tmp 66,.tmp 67] rfl rfl Ua rfl (qT k a0 U gw M)) ?_;refine aq (nt (sr ?_));refine mq ?_;refine jb (fL rfl) ?_;refine nt (cn h (λh=>?_) (λh=>?_))
         .refine sr (mq ?_);refine aq (nt (aA (br (bB (bv ?_)))));obtain rfl:=hR _ h;exact ra
         .refine bi (aO (tn (ab ?_)));obtain⟨Q,D,h⟩:=aa h;refine jb (bj rfl D) ?_;refine mq (nl ?_);exact jz ((),Q) h [1]
        .refine xa ?_;exact jz ((),()) h []
       .refine sr (cq (nt (aA ?_)));cases h;exact ra
def cJ(k:Nat)(a0:ae)(a1:Int):Nat->((List Int)×Int)->Option (List Int)
 |0,_=>none
 |n+1,y5=>
  if y5.2 < 5 then((((cL (0≤y5.2/\y5.2 < 5)).bind λ_=>
  (eI k a1 y5.2).bind λe=>
  if e=true then((cL (0≤y5.2/\y5.2 < 5)).bind λ_=>
  some (List.set (List.set y5.1 (Int.toNat y5.2) (-1:Int)) (Int.toNat y5.2) a0.2.1)) else(some (List.set y5.1 (Int.toNat y5.2) (-1:Int)))):Option ((List Int))).bind λx7=>
  (ck (y5.2+1)).bind λc=>
  cJ k a0 a1 n (x7,c)) else(some y5.1)
def fh(k:Nat)(a0:ae)(a1:Int):Option (List Int):=
 ((cJ k a0 a1 k ([0,0,0,0,0],0)):Option ((List Int))).bind λx3=>
 some x3
theorem qR{M:Md Tryz.prog}{bm:Nat}{c0 c1 c2 c3 c4 c5:Value}(hK:Kn M bm 0 [c0,c1,c2,c3,c4,c5])(k:Nat)(a0:ae)(a1:Int)(r:(List Int))(h:fh k a0 a1=some r):
 ce M 90 [.rep (.mo (Pv bm) [c0,c1,c2,c3,c4,c5] an) a0,.eq (.int .u8 a1)] [] (λ_:Unit=>(bN [.rep Tr r],[])):=by
 unfold fh at h
 replace h:=bg h
 refine ce.of 24 Tryz.func90 rfl Tryz.ntmps90 rfl λS w0=>?_
 refine sr ?_
 refine aX rfl rfl rfl (be rfl Du Ey) trivial λb1=>?_
 refine nt ?_
 refine sr ?_
 refine aX rfl rfl rfl (be rfl Du Ey) trivial λb2=>?_
 refine nt ?_
 refine aC (Z:=Unit) (α:=(List Int)) (λz4 x3=>[(4,Pt b1),(5,Pt b2)]) (λz4 x3=>[.obj b1 106 (.rep Tr [0,0,0,0,0]),.obj b2 106 (.rep Tr x3)]) h (λK h=>?_) (λz4 x3 h=>?_)
 .
  refine sr (fH rfl ?_);refine nt (ai (aD (λz6 y5=>[(0,.rep (.mo (Pv bm) [c0,c1,c2,c3,c4,c5] an) a0),(1,.eq (.int .u8 a1)),(4,Pt b1),(5,Pt b2),(7,I y5.2)]) (λz6 y5=>[.obj b1 106 (.rep Tr [0,0,0,0,0]),.obj b2 106 (.rep Tr y5.1)]) (cJ k a0 a1) k () ([0,0,0,0,0],0) (λ_=>rfl) h (SE.fin [1,0] ⟨rfl,rfl,rfl,rfl,rfl,trivial⟩ rfl) (λn z6 y5 h=>?_)));unfold cJ at h;refine sr (jb (bo rfl) ?_);refine nt (ak (ci h (λh=>?_) (λh=>?_)))
  .refine sk (aC (Z:=Unit) (α:=(List Int)) (λz8 x7=>[(0,.rep (.mo (Pv bm) [c0,c1,c2,c3,c4,c5] an) a0),(1,.eq (.int .u8 a1)),(4,Pt b1),(5,Pt b2),(7,I y5.2)]) (λz8 x7=>[.obj b1 106 (.rep Tr [0,0,0,0,0]),.obj b2 106 (.rep Tr x7)]) h (λK h=>?_) (λz8 x7 h=>?_))
   .refine ai (sr (mq ?_));refine aq (nt (sr ?_));refine mq ?_;obtain⟨u9,e,h⟩:=aa h;refine jb (ee rfl ru cF (am e).1 (am e).2) ?_;refine fr 1 ?_;refine aN rfl rfl (gY (t:=Ti) (off:=0) (i:=y5.2) (N:=5) rfl cF .int rfl rfl rfl rfl (am e).1 (am e).2 rfl) ⟨rfl,rfl,trivial⟩ ?_;refine nt (sr ?_);iterate 2 refine mq ?_
    obtain⟨u,l,h⟩:=aa h;refine jb (ax [.tmp 12,.tmp 13] rfl rfl I2 rfl (g9 k a1 y5.2 u l)) ?_;refine nt (cv h (λh=>?_) (λh=>?_))
    .refine ab ?_;iterate 2 refine mq ?_
     refine ja (lH rfl) ?_;refine ja (g7 rfl io) ?_;refine ja (iS 1 false rfl CS rfl rfl) ?_;refine ja (jC (t:=Ti) rfl cF (hK.sub 1 1 rfl (le_of_ble_eq_true rfl)) rfl rfl) ?_;obtain⟨x,c,h⟩:=aa h;refine jb (ee rfl ru cF (am c).1 (am c).2) ?_;refine aN rfl rfl (gY (t:=Ti) (off:=0) (i:=y5.2) (N:=5) rfl cF .int rfl rfl rfl rfl (am c).1 (am c).2 rfl) ⟨rfl,rfl,trivial⟩ ?_;refine aE (bn ?_);exact jz ((),List.set (List.set y5.1 (Int.toNat y5.2) (-1:Int)) (Int.toNat y5.2) a0.2.1) h [1,0]
    .refine bi (bn ?_);exact jz ((),List.set y5.1 (Int.toNat y5.2) (-1:Int)) h [1,0]
   .refine ab ?_;obtain⟨s,j,h⟩:=aa h;refine jb (bj rfl j) ?_;refine mq (nl ?_);exact jz ((),(x7,s)) h [0,1]
  .refine xa ?_;exact jz ((),y5.1) h [0,1]
 .
  refine sr (fr 1 ?_);refine lo fG ?_;refine fr 1 ?_;refine aN rfl rfl (aI rfl fG rfl rfl rfl) ⟨rfl,rfl,trivial⟩ ?_;refine nt (aA ?_);obtain rfl:=Option.some.inj h;exact aP () [.rep Tr x3] 0 ⟨⟨_,_,_,_,_,rfl,(.head _),fG,(s7),rfl⟩,trivial⟩ rfl
def dr(k:Nat)(a0:(List Int))(a1:Int):Nat->Int->Option (Except Int Unit)
 |0,_=>none
 |n+1,y3=>
  if y3 < (a0.length:Int) then((aF a0 y3).bind λx5=>
  if a1=x5 then(some (.error y3)) else((ck (y3+1)).bind λx6=>
  dr k a0 a1 n x6)) else(some (.ok ()))
def gB(k:Nat)(a0:(List Int))(a1:Int):Option Int:=
 bE (α:=Unit) (dr k a0 a1 k 0) (some) λ_=>
 some (-1:Int)
theorem ni(k:Nat)(a0:(List Int))(a1:Int)(r:Int)(h:gB k a0 a1=some r):
 dz Tryz.prog 82 [.rep Tl a0,I a1] [] (λ_:Unit=>(bN [I r],[])):=by
 unfold gB at h
 replace h:=bg h
 refine dz.of 19 Tryz.func82 rfl Tryz.ntmps82 rfl λS w0=>?_
 refine sr ?_
 refine cq ?_
 refine nt ?_
 refine dk (Z:=Unit) (α:=Unit) (λz2 x1=>[]) (λz2 x1=>[]) (λe=>e=r) h (λe h=>Option.some.inj h) (λK hR h=>?_) (λz2 x1 h=>?_)
 .
  refine sr (mq ?_);refine ol ig ?_;refine fH rfl ?_;refine nt (ai (aD (λz4 y3=>[(0,.rep Tl a0),(1,I a1),(7,I (a0.length:Int)),(8,I y3)]) (λz4 y3=>[]) (dr k a0 a1) k () 0 (λ_=>rfl) h (SE.fin [] ⟨rfl,rfl,rfl,rfl,trivial⟩ rfl) (λn z4 y3 h=>?_)));unfold dr at h;refine sr (jb (bo rfl) ?_);refine nt (ak (ci h (λh=>?_) (λh=>?_)))
  .refine sk (ak (ai (sr (mq ?_))));refine aq (nt (sr ?_));iterate 3 refine mq ?_
   obtain⟨x5,j,h⟩:=aa h;refine jb (aK (t:=Ti) rfl ig cF j) ?_;refine ja (ao (t:=Ti) rfl cF rfl) ?_;refine jb (jm rfl) ?_;refine nt (ci h (λh=>?_) (λh=>?_))
   .refine sr (mq ?_);refine aq (nt (aA (br (bB (bv ?_)))));obtain rfl:=hR _ h;exact ra
   .refine bi (aO (tn (ab ?_)));obtain⟨x6,c,h⟩:=aa h;refine jb (bj rfl c) ?_;refine mq (nl ?_);exact jz ((),x6) h []
  .refine xa ?_;exact jz ((),()) h []
 .
  refine sr (cq (nt (aA ?_)));cases h;exact ra
def lu(k:Nat)(a0:Int):Option Bool:=
 some (!decide (a0=a0))
theorem so(k:Nat)(a0:Int)(r:Bool)(h:lu k a0=some r):
 dz Tryz.prog 164 [I a0] [] (λ_:Unit=>(bN [.eq (.bool r)],[])):=by
 unfold lu at h
 replace h:=bg h
 refine dz.of 6 Tryz.func164 rfl Tryz.ntmps164 rfl λS w0=>?_
 refine sr ?_
 refine cq ?_
 refine nt ?_
 refine sr ?_
 iterate 2 refine mq ?_
 refine jb (fL rfl) ?_
 refine aq ?_
 refine nt ?_
 refine aA ?_
 cases h
 exact ra
def pq(k:Nat)(a0:Int)(a1:Int):Option Bool:=
 (((lu k a0).bind λr3=>
 if r3=true then((lu k a1).bind λr4=>
 if¬(r4=true) then(some true) else(some (decide (a0 < a1)))) else(some (decide (a0 < a1)))):Option (Bool)).bind λx1=>
 some x1
theorem AN(k:Nat)(a0:Int)(a1:Int)(r:Bool)(h:pq k a0 a1=some r):
 dz Tryz.prog 154 [I a0,I a1] [] (λ_:Unit=>(bN [.eq (.bool r)],[])):=by
 unfold pq at h
 replace h:=bg h
 refine dz.of 17 Tryz.func154 rfl Tryz.ntmps154 rfl λS w0=>?_
 refine sr ?_
 refine cq ?_
 refine nt ?_
 refine aC (Z:=Unit) (α:=Bool) (λz2 x1=>[(4,.eq (.bool x1))]) (λz2 x1=>[]) h (λK h=>?_) (λz2 x1 h=>?_)
 .
  refine ab (mq ?_);obtain⟨r3,e,h⟩:=aa h;refine ja (ax [.tmp 5] rfl rfl NW rfl (so k a0 r3 e)) ?_;refine mq ?_;refine cj (s:=7) rfl (λhb=>?_) (λhb=>?_)
  .replace h:=eQ (NG hb) h;refine gm ?_;obtain⟨r4,c,h⟩:=aa h;refine ga (ax [.tmp 8] rfl rfl NW rfl (so k a1 r4 c)) ?_;refine ga (gZ rfl) ?_;refine pt ?_;refine mq ?_;refine cj (s:=12) rfl (λhb=>?_) (λhb=>?_)
   .replace h:=eQ (zQ hb) h;iterate 3 refine gn ?_
    refine pt ?_;refine aq (nl ?_);exact jz ((),true) h []
   .replace h:=cQ (tQ hb) h;refine gm ?_;refine gm ?_;refine gb (bo rfl) ?_;refine pf ?_;refine aq (nl ?_);exact jz ((),decide (a0 < a1)) h []
  .replace h:=cQ (NJ hb) h;iterate 3 refine gn ?_
   refine pf ?_;refine mq ?_;refine gm ?_;refine gm ?_;refine gb (bo rfl) ?_;refine pf ?_;refine aq (nl ?_);exact jz ((),decide (a0 < a1)) h []
 .
  refine aA ?_;cases h;exact ra
def bL(k:Nat)(a1:Int):Nat->((List Int)×Int)->Option (List Int)
 |0,_=>none
 |n+1,y6=>
  ((if a1 < y6.2 then((aF y6.1 y6.2).bind λu=>
  (ck (y6.2 - 1)).bind λs=>
  (aF y6.1 s).bind λr=>
  (pq k u r).bind λx=>
  some x) else(some false)):Option (Bool)).bind λx8=>
  if x8=true then((ck (y6.2 - 1)).bind λe=>
  (ck (y6.2 - 1)).bind λl=>
  (aF y6.1 l).bind λc=>
  (aF y6.1 y6.2).bind λj=>
  (aF y6.1 y6.2).bind λD=>
  (aF (List.set y6.1 (Int.toNat y6.2) c) e).bind λy=>
  (ck (y6.2 - 1)).bind λh=>
  bL k a1 n (List.set (List.set y6.1 (Int.toNat y6.2) c) (Int.toNat e) j,h)) else(some y6.1)
def bh(k:Nat)(a1:Int)(a2:Int):Nat->((List Int)×Int)->Option (List Int)
 |0,_=>none
 |n+1,y2=>
  if y2.2 < a2 then(((bL k a1 k (y2.1,y2.2)):Option ((List Int))).bind λx4=>
  (ck (y2.2+1)).bind λc=>
  bh k a1 a2 n (x4,c)) else(some y2.1)
def bU(k:Nat)(a0:(List Int))(a1:Int)(a2:Int):Option (List Int):=
 (ck (a1+1)).bind λx1=>
 bh k a1 a2 k (a0,x1)
theorem jx(k:Nat)(a0:(List Int))(c:Value)(a1:Int)(a2:Int)(r:(List Int))(h:bU k a0 a1 a2=some r):
 dz Tryz.prog 148 [.eq c,I a1,I a2] [.sl c 3 Ti a0] (λ_:Unit=>(bN [],[.sl c 3 Ti r])):=by
 unfold bU at h
 replace h:=bg h
 refine dz.of 49 Tryz.func148 rfl Tryz.ntmps148 rfl λS w0=>?_
 refine sr ?_
 refine mq ?_
 obtain⟨x1,VI,h⟩:=aa h
 refine jb (bj rfl VI) ?_
 refine aq ?_
 refine nt ?_
 refine ai ?_
 refine aD (λz3 y2=>[(0,.eq c),(1,I a1),(2,I a2),(6,I y2.2)]) (λz3 y2=>[.sl c 3 Ti y2.1]) (bh k a1 a2) k () (a0,x1) (λ_=>rfl) h (SE.fin [0] ⟨rfl,rfl,rfl,rfl,trivial⟩ rfl) (λn z3 y2 h=>?_)
 unfold bh at h
 refine ak ?_
 refine sr ?_
 iterate 2 refine mq ?_
 refine jb (bo rfl) ?_
 refine nt ?_
 refine ci h (λh=>?_) (λh=>?_)
 .
  refine sk (aC (Z:=Unit) (α:=(List Int)) (λz5 x4=>[(0,.eq c),(1,I a1),(2,I a2),(6,I y2.2)]) (λz5 x4=>[.sl c 3 Ti x4]) h (λK h=>?_) (λz5 x4 h=>?_))
  .refine ai (sr (mq ?_));refine aq (nt (ai ?_));refine aD (λz7 y6=>[(0,.eq c),(1,I a1),(2,I a2),(6,I y2.2),(7,I y6.2)]) (λz7 y6=>[.sl c 3 Ti y6.1]) (bL k a1) k () (y2.1,y2.2) (λ_=>rfl) h (SE.fin [0] ⟨rfl,rfl,rfl,rfl,rfl,trivial⟩ rfl) (λn z7 y6 h=>?_);unfold bL at h;refine ak (aC (Z:=Unit) (α:=Bool) (λz9 x8=>[(0,.eq c),(1,I a1),(2,I a2),(6,I y2.2),(7,I y6.2),(30,.eq (.bool x8))]) (λz9 x8=>[.sl c 3 Ti y6.1]) h (λK h=>?_) (λz9 x8 h=>?_))
   .refine cN ?_;refine dm ?_;refine dm ?_;refine db (nm rfl) ?_;refine uv rfl rfl rfl (aV rfl) ⟨rfl,trivial⟩ (λhb=>?_) (λhb=>?_)
    .replace h:=eQ (sG hb) h;refine dn rfl rfl rfl rfl rfl (aV rfl) ⟨rfl,rfl,trivial⟩ ?_;refine dn rfl rfl rfl rfl rfl (aV rfl) ⟨rfl,rfl,trivial⟩ ?_;obtain⟨Vy,x,h⟩:=aa h;refine ir 0 rfl rfl rfl rfl rfl rfl (bA (t:=Ti) rfl ig cF x) ⟨rfl,rfl,rfl,trivial⟩ ?_;refine ir 0 rfl rfl rfl rfl rfl rfl (ek (i:=Int.toNat y6.2) (off:=0) rfl cF (λ_=>rfl) rfl (dR x).2.2 rfl) ⟨rfl,rfl,trivial⟩ ?_;refine dn rfl rfl rfl rfl rfl (aV rfl) ⟨rfl,rfl,trivial⟩ ?_;refine dn rfl rfl rfl rfl rfl (aV rfl) ⟨rfl,rfl,trivial⟩ ?_;obtain⟨Vx,qt,h⟩:=aa h;refine dn rfl rfl rfl rfl rfl (dL rfl qt) ⟨rfl,rfl,rfl,trivial⟩ ?_;obtain⟨Vw,u,h⟩:=aa h;refine ir 0 rfl rfl rfl rfl rfl rfl (bA (t:=Ti) rfl ig cF u) ⟨rfl,rfl,rfl,trivial⟩ ?_;refine ir 0 rfl rfl rfl rfl rfl rfl (ek (i:=Int.toNat Vx) (off:=0) rfl cF (λ_=>rfl) rfl (dR u).2.2 rfl) ⟨rfl,rfl,trivial⟩ ?_;refine df dS ?_;obtain⟨F,zz,h⟩:=aa h;refine gb (ax [.tmp 23,.tmp 28] rfl rfl RN rfl (AN k Vy Vw F zz)) ?_;refine pt (nl ?_);exact jz ((),F) h [0]
    .replace h:=cQ (sH hb) h;iterate 9 refine dg ?_
     refine df dS ?_;refine gn ?_;refine pf (nl ?_);exact jz ((),false) h [0]
   .refine cv h (λh=>?_) (λh=>?_)
    .refine sk (ak (ai (nH ?_)));refine ba rfl rfl rfl (aV rfl) ⟨rfl,trivial⟩ ?_;refine ba rfl rfl rfl (aV rfl) ⟨rfl,trivial⟩ ?_;refine ba rfl rfl rfl (aV rfl) ⟨rfl,trivial⟩ ?_;refine ba rfl rfl rfl (aV rfl) ⟨rfl,trivial⟩ ?_;obtain⟨y,mw,h⟩:=aa h;refine ba rfl rfl rfl (dL rfl mw) ⟨rfl,rfl,trivial⟩ ?_;refine ba rfl rfl rfl (aV rfl) ⟨rfl,trivial⟩ ?_;refine ba rfl rfl rfl (aV rfl) ⟨rfl,trivial⟩ ?_;obtain⟨Vv,mc,h⟩:=aa h;refine ba rfl rfl rfl (dL rfl mc) ⟨rfl,rfl,trivial⟩ ?_;obtain⟨E,s,h⟩:=aa h;refine ff 0 rfl rfl rfl rfl (bA (t:=Ti) rfl ig cF s) ⟨rfl,rfl,trivial⟩ ?_;refine ff 0 rfl rfl rfl rfl (ek (i:=Int.toNat Vv) (off:=0) rfl cF (λ_=>rfl) rfl (dR s).2.2 rfl) ⟨rfl,trivial⟩ ?_;refine ba rfl rfl rfl (aV rfl) ⟨rfl,trivial⟩ ?_;refine ba rfl rfl rfl (aV rfl) ⟨rfl,trivial⟩ ?_;obtain⟨D,l,h⟩:=aa h;refine ff 0 rfl rfl rfl rfl (bA (t:=Ti) rfl ig cF l) ⟨rfl,rfl,trivial⟩ ?_;refine ff 0 rfl rfl rfl rfl (ek (i:=Int.toNat y6.2) (off:=0) rfl cF (λ_=>rfl) rfl (dR l).2.2 rfl) ⟨rfl,trivial⟩ ?_;obtain⟨VQ,j,h⟩:=aa h;refine ff 0 rfl rfl rfl rfl (bA (t:=Ti) rfl ig cF j) ⟨rfl,rfl,trivial⟩ ?_;refine ry 15 [true,true,false,false,false,true,true,true,true,true,true,true,true,true,true] [48] [] [] rfl (by kernel_rfl) (by kernel_rfl) (by kernel_rfl) dS (λvs hv hB=>?_);obtain⟨w0,V7,rfl,VH⟩:=ap hv;obtain⟨w1,V6,rfl,VG⟩:=ap VH;obtain⟨w2,V5,rfl,VF⟩:=ap VG;obtain⟨w3,V4,rfl,VE⟩:=ap VF;obtain⟨w4,V3,rfl,VD⟩:=ap VE;obtain⟨w5,V2,rfl,VC⟩:=ap VD;obtain⟨w6,V0,rfl,VB⟩:=ap VC;obtain⟨w7,VZ,rfl,VA⟩:=ap VB;obtain⟨w8,VY,rfl,Vz⟩:=ap VA;obtain⟨w9,VO,rfl,X⟩:=ap Vz;obtain⟨VX,VN,rfl,U⟩:=ap X;obtain⟨VV,VM,rfl,Q⟩:=ap U;obtain⟨VU,VL,rfl,O⟩:=ap Q;obtain⟨VT,VK,rfl,M⟩:=ap O;obtain⟨VS,VJ,rfl,J⟩:=ap M;obtain rfl:=nZ J;refine⟨[0],[.sl c 3 Ti y6.1],by kernel_rfl,by decide,?_⟩;refine oq rfl rfl (fj (i:=Int.toNat y6.2) rfl cF rfl (oa j) rfl .int rfl) ⟨rfl,rfl,trivial⟩ (by kernel_rfl) ?_;obtain⟨VP,e,h⟩:=aa h;refine tK rfl rfl rfl rfl (bA (t:=Ti) rfl ig cF e) ⟨rfl,rfl,trivial⟩ (by kernel_rfl) ?_;refine oq rfl rfl (fj (i:=Int.toNat y) rfl cF rfl (oa e) rfl .int rfl) ⟨rfl,rfl,trivial⟩ (by kernel_rfl) ?_;refine tL ?_;refine bK (SE.fin (Γ':=[(0,.eq c),(1,I a1),(2,I a2),(6,I y2.2),(7,I y6.2)]) (Δ':=[.sl c 3 Ti (List.set (List.set y6.1 (Int.toNat y6.2) E) (Int.toNat y) D)]) [0] ⟨rfl,rfl,rfl,rfl,rfl,trivial⟩ rfl) ?_;refine aO (tn (ab (mq ?_)));obtain⟨Vu,gw,h⟩:=aa h;refine jb (dL rfl gw) ?_;refine aq (nl ?_);exact jz ((),(List.set (List.set y6.1 (Int.toNat y6.2) E) (Int.toNat y) D,Vu)) h [0]
    .refine fK (bM (bM (c6 (bn ?_))));exact jz ((),y6.1) h [0]
  .refine ab (mq ?_);obtain⟨Vt,Y,h⟩:=aa h;refine jb (bj rfl Y) ?_;refine aq (nl ?_);exact jz ((),(x4,Vt)) h [0]
 .
  refine fK (bM (bM (c6 (kz ?_))));cases h;exact aP () [] 1 trivial rfl
def kJ(k:Nat)(a0:Int):Option Int:=
 ((if 4294967296≤a0 then(some (iF .u64 a0 32,32)) else(some (a0,0))):Option (Int×Int)).bind λx1=>
 ((if 65536≤x1.1 then((ck (x1.2+16)).bind λx5=>
 some (iF .u64 x1.1 16,x5)) else(some (x1.1,x1.2))):Option (Int×Int)).bind λx3=>
 ((if 256≤x3.1 then((ck (x3.2+8)).bind λx8=>
 some (iF .u64 x3.1 8,x8)) else(some (x3.1,x3.2))):Option (Int×Int)).bind λx6=>
 (CJ LO (IntKind.u8.wrap x6.1)).bind λx9=>
 (ck (x9.toNat:Int)).bind λe=>
 (ck (x6.2+e)).bind λc=>
 some c
theorem qW(k:Nat)(a0:Int)(r:Int)(h:kJ k a0=some r):
 dz Tryz.prog 158 [.eq (.int .u64 a0)] [] (λ_:Unit=>(bN [I r],[])):=by
 unfold kJ at h
 replace h:=bg h
 refine dz.of 25 Tryz.func158 rfl Tryz.ntmps158 rfl λS w0=>?_
 refine sr ?_
 refine cq ?_
 refine nt ?_
 refine aC (Z:=Unit) (α:=Int×Int) (λz2 x1=>[(0,.eq (.int .u64 x1.1)),(2,I x1.2)]) (λz2 x1=>[]) h (λK h=>?_) (λz2 x1 h=>?_)
 .
  refine sr (mq ?_);refine jb (jX rfl) ?_;refine nt (ci h (λh=>?_) (λh=>?_))
  .refine sr (mq ?_);refine cy rfl (uU rfl (by decide)) ⟨rfl,rfl,trivial⟩ ?_;refine aq (nt (ab ?_));refine cq (nl ?_);exact jz ((),(iF .u64 a0 32,32)) h []
  .refine bi (au ?_);exact jz ((),(a0,0)) h []
 .
  refine aC (Z:=Unit) (α:=Int×Int) (λz4 x3=>[(0,.eq (.int .u64 x3.1)),(2,I x3.2)]) (λz4 x3=>[]) h (λK h=>?_) (λz4 x3 h=>?_)
  .refine sr (mq ?_);refine jb (jX rfl) ?_;refine nt (ci h (λh=>?_) (λh=>?_))
   .refine sr (mq ?_);refine cy rfl (uU rfl (by decide)) ⟨rfl,rfl,trivial⟩ ?_;refine aq (nt (ab ?_));refine mq ?_;obtain⟨x5,n,h⟩:=aa h;refine jb (bj rfl n) ?_;refine aq (nl ?_);exact jz ((),(iF .u64 x1.1 16,x5)) h []
   .refine bi (au ?_);exact jz ((),(x1.1,x1.2)) h []
  .refine aC (Z:=Unit) (α:=Int×Int) (λz7 x6=>[(0,.eq (.int .u64 x6.1)),(2,I x6.2)]) (λz7 x6=>[]) h (λK h=>?_) (λz7 x6 h=>?_)
   .refine sr (mq ?_);refine jb (jX rfl) ?_;refine nt (ci h (λh=>?_) (λh=>?_))
    .refine sr (mq ?_);refine cy rfl (uU rfl (by decide)) ⟨rfl,rfl,trivial⟩ ?_;refine aq (nt (ab ?_));refine mq ?_;obtain⟨x8,l,h⟩:=aa h;refine jb (bj rfl l) ?_;refine aq (nl ?_);exact jz ((),(iF .u64 x3.1 8,x8)) h []
    .refine bi (au ?_);exact jz ((),(x3.1,x3.2)) h []
   .refine sr ?_;iterate 2 refine mq ?_
    refine ja (sW rfl SY U5) ?_;obtain⟨x9,j,h⟩:=aa h;refine ja (zO rfl U9 j) ?_;obtain⟨u,e,h⟩:=aa h;refine ja (zP rfl U5 U3 e) ?_;obtain⟨s,c,h⟩:=aa h;refine jb (bj rfl c) ?_;refine aq (nt (aA ?_));cases h;exact ra
def qf(k:Nat)(a0:Int):Option Int:=
 (kJ k a0).bind λr1=>
 some r1
theorem Da(k:Nat)(a0:Int)(r:Int)(h:qf k a0=some r):
 dz Tryz.prog 147 [.eq (.int .u64 a0)] [] (λ_:Unit=>(bN [I r],[])):=by
 unfold qf at h
 replace h:=bg h
 refine dz.of 8 Tryz.func147 rfl Tryz.ntmps147 rfl λS w0=>?_
 refine sr ?_
 refine cq ?_
 refine nt ?_
 refine ak ?_
 refine JP (λhb=>(by cases hb)) (λhb=>?_)
 refine sk ?_
 refine sr ?_
 refine mq ?_
 obtain⟨r1,c,h⟩:=aa h
 have e:=qW k a0 r1 c
 refine ja (ax [.tmp 6] rfl rfl RL rfl e) ?_
 refine aq ?_
 refine nt ?_
 refine aA ?_
 cases h
 exact ra
def cG(k:Nat)(a0:(List Int))(a1:Int)(a2:Int)(a3:Int):Nat->Unit->Option (List Int)
 |0,_=>none
 |n+1,y1=>
  (ck (a2 - a1)).bind λx3=>
  if x3≤12 then((bU k a0 a1 a2).bind λr4=>
  some r4) else(if a3=0 then(none) else(none))
def cX(k:Nat)(a0:(List Int))(a1:Int)(a2:Int)(a3:Int):Option (List Int):=
 cG k a0 a1 a2 a3 k ()
theorem l8(k:Nat)(a0:(List Int))(c:Value)(a1:Int)(a2:Int)(a3:Int)(r:(List Int))(h:cX k a0 a1 a2 a3=some r):
 dz Tryz.prog 146 [.eq c,I a1,I a2,I a3] [.sl c 3 Ti a0] (λ_:Unit=>(bN [],[.sl c 3 Ti r])):=by
 unfold cX at h
 replace h:=bg h
 refine dz.of 134 Tryz.func146 rfl Tryz.ntmps146 rfl λS w0=>?_
 refine sr ?_
 refine cq ?_
 refine nt ?_
 refine sr ?_
 refine cq ?_
 refine nt ?_
 refine ai ?_
 refine aD (λz2 y1=>[(0,.eq c),(1,I a1),(2,I a2),(3,I a3),(8,.eq (.bool true)),(9,.eq (.bool true))]) (λz2 y1=>[.sl c 3 Ti a0]) (cG k a0 a1 a2 a3) k () () (λ_=>rfl) h (SE.fin [0] ⟨rfl,rfl,rfl,rfl,rfl,rfl,trivial⟩ rfl) (λn z2 y1 h=>?_)
 unfold cG at h
 refine ai ?_
 refine sr ?_
 iterate 2 refine mq ?_
 obtain⟨x3,e,h⟩:=aa h
 refine jb (dL rfl e) ?_
 refine aq ?_
 refine nt ?_
 refine ak ?_
 refine sr ?_
 refine mq ?_
 refine jb (zN rfl) ?_
 refine nt ?_
 refine ci h (λh=>?_) (λh=>?_)
 .
  refine sr ?_;iterate 3 refine mq ?_
  obtain⟨r4,j,h⟩:=aa h;refine kc (ax [.tmp 24,.tmp 25,.tmp 26] rfl rfl RO rfl (jx k a0 c a1 a2 r4 j)) ?_;refine nt (rx (bB (bv (bB ?_))));cases h;exact aP () [] 1 trivial rfl
 .
  refine sk (ak (sr (mq ?_)));refine jb (jm rfl) ?_;refine nt (ci h (λh=>?_) (λh=>?_))
  .cases h
  .cases h
def f9(k:Nat)(a0:(List Int)):Option (List Int):=
 (qf k (IntKind.u64.wrap (a0.length:Int))).bind λr1=>
 (cX k a0 0 (a0.length:Int) r1).bind λr2=>
 some r2
theorem t7(k:Nat)(a0:(List Int))(c:Value)(r:(List Int))(h:f9 k a0=some r):
 dz Tryz.prog 133 [.eq c] [.sl c 3 Ti a0] (λ_:Unit=>(bN [],[.sl c 3 Ti r])):=by
 unfold f9 at h
 replace h:=bg h
 refine dz.of 11 Tryz.func133 rfl Tryz.ntmps133 rfl λS w0=>?_
 refine sr ?_
 refine mq ?_
 refine ka (jD rfl rfl ig) ?_
 refine aq ?_
 refine nt ?_
 refine ab ?_
 iterate 3 refine mq ?_
 refine ja (sW rfl U3 UQ) ?_
 obtain⟨r1,j,h⟩:=aa h
 have n:=Da k (IntKind.u64.wrap (a0.length:Int)) r1 j
 refine ja (ax [.tmp 8] rfl rfl RP rfl n) ?_
 obtain⟨r2,e,h⟩:=aa h
 have l:=l8 k a0 c 0 (a0.length:Int) r1 r2 e
 refine mX rfl rfl rfl (ax [.tmp 5,.const (.int .i64 (0)),.tmp 6,.tmp 9] rfl rfl RQ rfl l) ⟨rfl,rfl,rfl,rfl,trivial⟩ ?_
 refine aE ?_
 refine kz ?_
 cases h
 exact aP () [] 1 trivial rfl
def cK(k:Nat)(a1:Int)(x3:(List (List Int))):Nat->Int->Option (Except (Int ⊕ (List Int)) Unit)
 |0,_=>none
 |n+1,y4=>
  if y4 < (x3.length:Int) then((aF x3 y4).bind λx6=>
  (gB k x6 a1).bind λr7=>
  if 0≤r7 then(((if 0 < r7 then((ck (r7 - 1)).bind λs=>
  (aF x6 s).bind λe=>
  (cL (bD (length ([]:(List Int))+length [e]))).bind λ_=>
  some (([]:(List Int))++[e])) else(some ([]:(List Int)))):Option ((List Int))).bind λx8=>
  (((ck (r7+1)).bind λl=>
  if l < (x6.length:Int) then((ck (r7+1)).bind λj=>
  (aF x6 j).bind λc=>
  (cL (bD (length x8+length [c]))).bind λ_=>
  some (x8++[c])) else(some x8)):Option ((List Int))).bind λr=>
  (f9 k r).bind λu=>
  some (.error (Sum.inr u:(Int ⊕ (List Int))))) else((ck (y4+1)).bind λh=>
  cK k a1 x3 n h)) else(some (.ok ()))
def eC(k:Nat):Nat->ae->Int->Int->Option ((Int ⊕ (List Int)))
 |0,_,_,_=>none
 |m0+1,a0,a1,a2=>
  bE (α:=Unit) ((aF a0.2.2.2.2.1 a2).bind λx3=>
  cK k a1 x3 k 0) (some) λ_=>
  ((if 0 < a2 then((ck (a2 - 1)).bind λh=>
  ((eC k m0) a0 a1 h).bind λc=>
  if KY c=true then((ck (1+(QH c))).bind λe=>
  some e) else(some 1)) else(some 1)):Option (Int)).bind λj=>
  some (Sum.inl j:(Int ⊕ (List Int)))
theorem lM{M:Md Tryz.prog}{bm:Nat}{c0 c1 c2 c3 c4 c5:Value}(hK:Kn M bm 0 [c0,c1,c2,c3,c4,c5])(k:Nat):
 ∀(n:Nat) (a0:ae) (a1:Int) (a2:Int) (r:(Int ⊕ (List Int))),eC k n a0 a1 a2=some r->ce M 108 [.rep (.mo (Pv bm) [c0,c1,c2,c3,c4,c5] an) a0,I a1,I a2] ([]) (λ_:Unit=>(bN [.rep (.pl 167 169 Tl) r],[])):=by
 intro n
 induction n with
 |zero=>intro a0 a1 a2 r h;cases h
 |succ m0 ih=>
  intro a0 a1 a2 r h;rw [eC] at h;replace h:=bg h;refine ce.of 80 Tryz.func108 rfl Tryz.ntmps108 rfl λS w0=>?_;refine sr (cq (nt ?_));refine dk (Z:=Unit) (α:=Unit) (λz2 x1=>[(0,.rep (.mo (Pv bm) [c0,c1,c2,c3,c4,c5] an) a0),(1,I a1),(2,I a2)]) (λz2 x1=>[]) (λe=>e=r) h (λe h=>Option.some.inj h) (λK hR h=>?_) (λz2 x1 h=>?_)
  .refine sr (mq ?_);refine ja (lH rfl) ?_;refine ja (g7 rfl io) ?_;refine ja (iS 1 false rfl dh rfl rfl) ?_;refine ja (jC (t:=(.slice (.slice Tl))) rfl ix (hK.sub 4 1 rfl (le_of_ble_eq_true rfl)) rfl rfl) ?_;refine mq ?_;obtain⟨x3,Vy,h⟩:=aa h;refine jb (aK (t:=(.slice Tl)) rfl vG qm Vy) ?_;refine ja (ao (t:=(.slice Tl)) rfl qm rfl) ?_;refine ol mM ?_;refine fH rfl ?_;refine nt (ai (aD (λz5 y4=>[(0,.rep (.mo (Pv bm) [c0,c1,c2,c3,c4,c5] an) a0),(1,I a1),(2,I a2),(21,.rep (.slice Tl) x3),(22,I (x3.length:Int)),(23,I y4)]) (λz5 y4=>[]) (cK k a1 x3) k () 0 (λ_=>rfl) h (SE.fin [] ⟨rfl,rfl,rfl,rfl,rfl,rfl,trivial⟩ rfl) (λn z5 y4 h=>?_)));unfold cK at h;refine sr (jb (bo rfl) ?_);refine nt (ak (ci h (λh=>?_) (λh=>?_)))
   .refine sk (ak (ai (sr ?_)));obtain⟨x6,Vx,h⟩:=aa h;refine jb (aK (t:=Tl) rfl mM dN Vx) ?_;refine ja (ao (t:=Tl) rfl dN rfl) ?_;refine aq (nt (sr ?_));iterate 2 refine mq ?_
    obtain⟨r7,Vz,h⟩:=aa h;refine jb (ax [.tmp 27,.tmp 28] rfl rfl Rw rfl (ni k x6 a1 r7 Vz)) ?_;refine aq (nt (sr ?_));refine mq ?_;refine jb (jX rfl) ?_;refine nt (ci h (λh=>?_) (λh=>?_))
    .refine sr (cq (nt ?_));refine aC (Z:=Value) (α:=(List Int)) (λz9 x8=>[(8,.rep Tl x6),(9,I r7),(10,.eq z9)]) (λz9 x8=>[.sl z9 3 Ti x8]) h (λK h=>?_) (λz9 x8 h=>?_)
     .refine sr (mq ?_);refine jb (nm rfl) ?_;refine nt (ci h (λh=>?_) (λh=>?_))
      .refine ab ?_;iterate 3 refine mq ?_
       obtain⟨VC,U,h⟩:=aa h;refine jb (dL rfl U) ?_;obtain⟨x,Q,h⟩:=aa h;refine jb (aK (t:=Ti) rfl ig cF Q) ?_;refine ja (ao (t:=Ti) rfl cF rfl) ?_;refine ja (bb (t:=Ti) [(.tmp 39,_)] [x] rfl rfl dO (.cons rfl .int .nil) rfl rfl) ?_;refine eg (SE.nil 3 Ti) ?_;obtain⟨VE,Y,h⟩:=aa h;refine dK rfl rfl rfl (bV rfl rfl dO (am Y)) ⟨rfl,rfl,trivial⟩ λVu=>?_;refine aq (nl ?_);exact jz (Vu,([]:(List Int))++[x]) h [0]
      .refine bi (au (bK (SE.nil 3 Ti) ?_));exact jz ((.slice none 0 0),([]:(List Int))) h [0]
     .refine aC (Z:=Value) (α:=(List Int)) (λc j=>[(10,.eq c)]) (λc j=>[.sl c 3 Ti j]) h (λK h=>?_) (λc j h=>?_)
      .refine sr (mq ?_);obtain⟨VB,O,h⟩:=aa h;refine jb (bj rfl O) ?_;refine mq ?_;refine ol ig ?_;refine jb (bo rfl) ?_;refine nt (ci h (λh=>?_) (λh=>?_))
       .refine ab ?_;iterate 3 refine mq ?_
        obtain⟨VA,J,h⟩:=aa h;refine jb (bj rfl J) ?_;obtain⟨u,F,h⟩:=aa h;refine jb (aK (t:=Ti) rfl ig cF F) ?_;refine ja (ao (t:=Ti) rfl cF rfl) ?_;refine ja (bb (t:=Ti) [(.tmp 52,_)] [u] rfl rfl dO (.cons rfl .int .nil) rfl rfl) ?_;obtain⟨VD,X,h⟩:=aa h;refine dK rfl rfl rfl (bV rfl rfl dO (am X)) ⟨rfl,rfl,trivial⟩ λVt=>?_;refine aq (nl ?_);exact jz (Vt,x8++[u]) h [0]
       .refine bi (au ?_);exact jz (z9,x8) h [0]
      .refine sr (mq ?_);obtain⟨Vw,mc,h⟩:=aa h;refine ka (ax [.tmp 55] rfl rfl RR rfl (t7 k j c Vw mc)) ?_;refine nt (sr (mq ?_));refine eg (ic [10,55,57] ⟨rfl,rfl,rfl,trivial⟩) ?_;refine ja (eE [(0,.tmp 57,_)] rfl QK Ny PT (jV ⟨rfl,trivial⟩) rfl) ?_;refine ja (K5 (t0:=167) (t:=Ti) rfl UN) ?_;refine aq (nt (aA (br (bB (bv ?_)))));obtain rfl:=hR _ h;exact ra
    .refine bi (aO (tn (ab ?_)));obtain⟨zz,E,h⟩:=aa h;refine jb (bj rfl E) ?_;refine mq (nl ?_);exact jz ((),zz) h []
   .refine xa ?_;exact jz ((),()) h []
  .refine sr (cq (nt ?_));refine aC (Z:=Unit) (α:=Int) (λs l=>[(11,I l)]) (λs l=>[]) h (λK h=>?_) (λs l h=>?_)
   .refine sr (mq ?_);refine jb (nm rfl) ?_;refine nt (ci h (λh=>?_) (λh=>?_))
    .refine sr ?_;iterate 3 refine mq ?_
     obtain⟨qt,D,h⟩:=aa h;refine jb (dL rfl D) ?_;obtain⟨Vv,gw,h⟩:=aa h;refine jc (aW [.tmp 64,.tmp 65,.tmp 67] rfl rfl I3 rfl (ih a0 a1 qt Vv gw)) ?_;refine cy rfl (DL rfl G9 (by decide)) ⟨rfl,trivial⟩ ?_;refine mq ?_;refine xr ?_;refine xr ?_;refine aX rfl rfl rfl (be rfl Gz N7) trivial λVF=>?_;refine aN rfl rfl (aI rfl NL trivial rfl rfl) ⟨rfl,rfl,trivial⟩ ?_;refine aq (nt (sr ?_));refine mq (nt ?_);refine cv h (λh=>?_) (λh=>?_)
     .refine ab (mq ?_);refine fl Ef ?_;refine lo cF ?_;obtain⟨mw,y,h⟩:=aa h;refine jb (bj rfl y) ?_;refine aq (nl ?_);exact jz ((),mw) h []
     .refine bi (au ?_);exact jz ((),1) h []
    .refine bi (au ?_);exact jz ((),1) h []
   .refine sr (mq ?_);refine ja (eE [(0,.tmp 77,_)] rfl QL Gz PU (jV ⟨rfl,trivial⟩) rfl) ?_;refine ja (K6 (t1:=169) (t:=Ti) rfl UO) ?_;refine aq (nt (aA ?_));cases h;exact ra
def iP(k:Nat)(a0:NZ):Option (List Int):=
 some ([]:(List Int))
theorem qS(k:Nat)(a0:NZ)(r:(List Int))(h:iP k a0=some r):
 dz Tryz.prog 182 [.rep QA a0] [] (λ_:Unit=>(bN [.rep Tl r],[])):=by
 unfold iP at h
 replace h:=bg h
 refine dz.of 3 Tryz.func182 rfl Tryz.ntmps182 rfl λS w0=>?_
 refine sr ?_
 refine bx λb1=>?_
 refine cq ?_
 refine nt ?_
 refine sr ?_
 refine cq ?_
 refine nt ?_
 refine aA ?_
 refine bK (eV (t:=Tl) (x:=([]:(List Int))) 2 rfl .nil rfl rfl) ?_
 cases h
 exact ra
def iN(k:Nat)(a0:NY):Option (List Int):=
 some a0
theorem qP(k:Nat)(a0:NY)(r:(List Int))(h:iN k a0=some r):
 dz Tryz.prog 183 [.rep Qz a0] [] (λ_:Unit=>(bN [.rep Tl r],[])):=by
 unfold iN at h
 replace h:=bg h
 refine dz.of 5 Tryz.func183 rfl Tryz.ntmps183 rfl λS w0=>?_
 refine sr ?_
 refine bx λb1=>?_
 refine cq ?_
 refine nt ?_
 refine sr ?_
 refine fl LZ ?_
 refine lo dN ?_
 refine aq ?_
 refine nt ?_
 refine aA ?_
 cases h
 exact ra
def bX(k:Nat)(a0:ae)(a1:(List Int))(r5:(List Int)):Nat->Int->Option (Except Int Unit)
 |0,_=>none
 |n+1,y6=>
  if y6 < (r5.length:Int) then((aF r5 y6).bind λx8=>
  (cL (0≤x8/\x8 < 5)).bind λ_=>
  (aF a1 x8).bind λe=>
  if(tl 0 a0.2.1)≤e then(some (.error x8)) else((ck (y6+1)).bind λc=>
  bX k a0 a1 r5 n c)) else(some (.ok ()))
def dA(k:Nat)(a0:ae)(a1:(List Int))(a2:Int)(a3:Int):Option Int:=
 bE (α:=Unit) ((eC k k a0 a2 a3).bind λr4=>
 (Jc r4 (λn=>iP k n) (λl=>iN k l)).bind λr5=>
 bX k a0 a1 r5 k 0) (some) λ_=>
 some (-1:Int)
theorem j7{M:Md Tryz.prog}{bm:Nat}{c0 c1 c2 c3 c4 c5:Value}(hK:Kn M bm 0 [c0,c1,c2,c3,c4,c5])(k:Nat)(a0:ae)(a1:(List Int))(a2:Int)(a3:Int)(r:Int)(h:dA k a0 a1 a2 a3=some r):
    ce M 100 [.rep (.mo (Pv bm) [c0,c1,c2,c3,c4,c5] an) a0,.rep Tr a1,.eq (.int .i64 a2),.eq (.int .i64 a3)] [] (λ_:Unit=>(bN [.eq (.int .i64 r)],[])):=by
  unfold dA at h
  replace h:=bg h
  refine ce.of 33 Tryz.func100 rfl Tryz.ntmps100 rfl λS w0=>?_
  refine ak ?_
  refine ab ?_
  refine aX rfl rfl rfl (wZ rfl rfl) ⟨rfl,trivial⟩ λb1=>?_
  refine EL rfl ?_
  refine aE ?_
  refine au ?_
  show JC _ _ _ _ _
  refine dk (Z:=Unit) (α:=Unit) (λz3 x2=>[]) (λz3 x2=>[]) (λe=>e=r) h (λe h=>Option.some.inj h) (λK hR h=>?_) (λz3 x2 h=>?_)
  .
    refine ak ?_
    refine ab ?_
    refine iu rfl rfl ?_
    refine iu rfl rfl ?_
    refine iu rfl rfl ?_
    obtain⟨r4,D,h⟩:=aa h
    have E:=lM hK k k a0 a2 a3 r4 D
    refine cy rfl (aW [.tmp 11,.tmp 12,.tmp 13] rfl rfl I3 rfl E) ⟨rfl,rfl,rfl,trivial⟩ ?_
    obtain⟨r5,c,h⟩:=aa h
    refine cy rfl (K7 (r:=.rep Tl r5) rfl rfl wv wu (λn hd=>.agI (qS k n r5 (by rw [hd] at c;exact c))) (λl hd=>.agS (qP k l r5 (by rw [hd] at c;exact c)))) ⟨rfl,trivial⟩ ?_
    refine cy rfl (rN rfl rfl ig) ⟨rfl,trivial⟩ ?_
    refine fH rfl ?_
    refine aE ?_
    refine au ?_
    show JC _ _ _ _ _
    refine ai ?_
    refine aD (λz7 y6=>[(0,.rep (.mo (Pv bm) [c0,c1,c2,c3,c4,c5] an) a0),(5,.eq (Pv b1)),(15,.rep Tl r5),(16,.eq (.int .i64 (r5.length:Int))),(17,.eq (.int .i64 y6))]) (λz7 y6=>[.obj b1 106 (.rep Tr a1)]) (bX k a0 a1 r5) k () 0 (λ_=>rfl) h (SE.fin [0] ⟨rfl,rfl,rfl,rfl,rfl,trivial⟩ rfl) (λn z7 y6 h=>?_)
    unfold bX at h
    refine ak ?_
    refine ab ?_
    refine cy rfl (bo rfl) ⟨rfl,rfl,trivial⟩ ?_
    refine aE ?_
    refine au ?_
    show JC _ _ _ _ _
    refine ak ?_
    refine iq rfl (λhb=>?_) (λhb=>?_)
    . replace h:=eQ (sG hb) h
      refine bi ?_
      refine au ?_
      show JC _ _ _ _ _
      refine ak ?_
      refine ai ?_
      refine ak ?_
      refine ab ?_
      obtain⟨x8,y,h⟩:=aa h
      refine cy rfl (aK (t:=Ti) rfl ig cF y) ⟨rfl,rfl,trivial⟩ ?_
      refine cy rfl (ao (t:=Ti) rfl cF rfl) ⟨rfl,trivial⟩ ?_
      refine vO rfl rfl ?_
      refine aE ?_
      refine au ?_
      show JC _ _ _ _ _
      refine ak ?_
      refine cN ?_
      refine fV rfl rfl rfl (aV rfl) ⟨rfl,trivial⟩ ?_
      obtain⟨u9,u,h⟩:=aa h
      refine fV rfl rfl rfl (ee rfl ru cF (am u).1 (am u).2) ⟨rfl,rfl,trivial⟩ ?_
      obtain⟨F,s,h⟩:=aa h
      refine yV 0 rfl rfl rfl rfl (nP (t:=Ti) (off:=0) (i:=x8) (N:=5) rfl cF (λ_=>rfl) rfl rfl rfl rfl s) ⟨rfl,trivial⟩ ?_
      refine fV rfl rfl rfl (aV rfl) ⟨rfl,trivial⟩ ?_
      refine fV rfl rfl rfl (lH rfl) ⟨rfl,trivial⟩ ?_
      refine fV rfl rfl rfl (g7 rfl io) ⟨rfl,trivial⟩ ?_
      refine fV rfl rfl rfl (iS 1 false rfl CS rfl rfl) ⟨rfl,trivial⟩ ?_
      refine fV rfl rfl rfl (jC (t:=Ti) rfl cF (hK.sub 1 1 rfl (le_of_ble_eq_true rfl)) rfl rfl) ⟨rfl,trivial⟩ ?_
      refine fV rfl rfl rfl (HV rfl rfl) ⟨rfl,rfl,trivial⟩ ?_
      refine Ds (by kernel_rfl) dS ?_
      refine cy rfl (jX rfl) ⟨rfl,rfl,trivial⟩ ?_
      refine aE ?_
      refine au ?_
      show JC _ _ _ _ _
      refine iq rfl (λhb=>?_) (λhb=>?_)
      . replace h:=eQ (sG hb) h
        refine ak ?_
        refine ab ?_
        refine iu rfl rfl ?_
        refine vO rfl rfl ?_
        refine aE ?_
        refine au ?_
        show JC _ _ _ _ _
        refine aA ?_
        refine bB ?_
        refine bv ?_
        refine bv ?_
        refine bB ?_
        refine bv ?_
        obtain rfl:=hR _ h
        exact aP () [_] 0 ⟨rfl,trivial⟩ rfl
      . replace h:=cQ (sH hb) h
        refine bi ?_
        refine aO ?_
        refine au ?_
        show JC _ _ _ _ _
        refine ab ?_
        obtain⟨x,j,h⟩:=aa h
        refine cy rfl (bj rfl j) ⟨rfl,rfl,trivial⟩ ?_
        refine iu rfl rfl ?_
        refine aE ?_
        refine au ?_
        exact mZ ((),x) h (SE.fin [0] ⟨rfl,rfl,rfl,rfl,rfl,trivial⟩ rfl)
    . replace h:=cQ (sH hb) h
      refine fK ?_
      refine bM ?_
      refine bM ?_
      refine c6 ?_
      refine au ?_
      exact mZ ((),()) h (SE.fin [] trivial rfl)
  .
    refine ak ?_
    refine ab ?_
    refine EL rfl ?_
    refine aE ?_
    refine au ?_
    show JC _ _ _ _ _
    refine aA ?_
    obtain rfl:=Option.some.inj h
    exact aP () [_] 0 ⟨rfl,trivial⟩ rfl
def cC(k:Nat)(a0:ae)(a1:(List Int))(a2:Int):Nat->((List Int)×Int)->Option (List Int)
 |0,_=>none
 |n+1,y6=>
  if y6.2 < a0.1 then((((eC k k a0 y6.2 a2).bind λc=>
  if KY c=true then(if a0.2.2.2.1≤(QH c) then((cL (0≤y6.2/\y6.2 < 5)).bind λ_=>
  some (List.set y6.1 (Int.toNat y6.2) (-1:Int))) else(some y6.1)) else(if¬(KY c=true) then((cL (0≤y6.2/\y6.2 < 5)).bind λ_=>
  (aF a1 y6.2).bind λl=>
  if 0≤l then((cL (0≤y6.2/\y6.2 < 5)).bind λ_=>
  (aF a1 y6.2).bind λj=>
  (ck (j+1)).bind λh=>
  (cL (0≤y6.2/\y6.2 < 5)).bind λ_=>
  some (List.set y6.1 (Int.toNat y6.2) h)) else((dA k a0 a1 y6.2 a2).bind λr=>
  if 0≤r then((cL (0≤y6.2/\y6.2 < 5)).bind λ_=>
  some (List.set y6.1 (Int.toNat y6.2) 0)) else(some y6.1))) else(some y6.1))):Option ((List Int))).bind λx8=>
  (ck (y6.2+1)).bind λe=>
  cC k a0 a1 a2 n (x8,e)) else(some y6.1)
def hH(k:Nat)(a0:ae)(a1:(List Int))(a2:Int):Option (List Int):=
 ((cC k a0 a1 a2 k (a1,0)):Option ((List Int))).bind λx4=>
 some x4
theorem rT{M:Md Tryz.prog}{bm:Nat}{c0 c1 c2 c3 c4 c5:Value}(hK:Kn M bm 0 [c0,c1,c2,c3,c4,c5])(k:Nat)(a0:ae)(a1:(List Int))(a2:Int)(r:(List Int))(h:hH k a0 a1 a2=some r):
 ce M 91 [.rep (.mo (Pv bm) [c0,c1,c2,c3,c4,c5] an) a0,.rep Tr a1,I a2] [] (λ_:Unit=>(bN [.rep Tr r],[])):=by
 unfold hH at h
 replace h:=bg h
 refine ce.of 60 Tryz.func91 rfl Tryz.ntmps91 rfl λS w0=>?_
 refine sr ?_
 refine bx λb1=>?_
 refine aX rfl rfl rfl (be rfl Du Ey) trivial λb2=>?_
 refine nt ?_
 refine sr ?_
 refine fr 1 ?_
 refine lo fG ?_
 refine aX rfl rfl rfl (be rfl Du Ey) trivial λb3=>?_
 refine aN rfl rfl (aI rfl fG rfl rfl rfl) ⟨rfl,rfl,trivial⟩ ?_
 refine nt ?_
 refine aC (Z:=Unit) (α:=(List Int)) (λz5 x4=>[(6,Pt b2),(7,Pt b3)]) (λz5 x4=>[.obj b2 106 (.rep Tr [0,0,0,0,0]),.obj b3 106 (.rep Tr x4)]) h (λK h=>?_) (λz5 x4 h=>?_)
 .
  refine sr (mq ?_);refine ja (lH rfl) ?_;refine ja (g7 rfl io) ?_;refine ja (iS 1 false rfl gG rfl rfl) ?_;refine ja (jC (t:=Ti) rfl cF (hK.sub 0 1 rfl (le_of_ble_eq_true rfl)) rfl rfl) ?_;refine fH rfl ?_;refine nt (ai (aD (λz7 y6=>[(0,.rep (.mo (Pv bm) [c0,c1,c2,c3,c4,c5] an) a0),(2,I a2),(4,Pt b1),(6,Pt b2),(7,Pt b3),(16,I a0.1),(17,I y6.2)]) (λz7 y6=>[.obj b1 106 (.rep Tr a1),.obj b2 106 (.rep Tr [0,0,0,0,0]),.obj b3 106 (.rep Tr y6.1)]) (cC k a0 a1 a2) k () (a1,0) (λ_=>rfl) h (SE.fin [1,2,0] ⟨rfl,rfl,rfl,rfl,rfl,rfl,rfl,trivial⟩ rfl) (λn z7 y6 h=>?_)));unfold cC at h;refine sr (jb (bo rfl) ?_);refine nt (ak (ci h (λh=>?_) (λh=>?_)))
  .refine sk (aC (Z:=Unit) (α:=(List Int)) (λz9 x8=>[(0,.rep (.mo (Pv bm) [c0,c1,c2,c3,c4,c5] an) a0),(2,I a2),(4,Pt b1),(6,Pt b2),(7,Pt b3),(16,I a0.1),(17,I y6.2)]) (λz9 x8=>[.obj b1 106 (.rep Tr a1),.obj b2 106 (.rep Tr [0,0,0,0,0]),.obj b3 106 (.rep Tr x8)]) h (λK h=>?_) (λz9 x8 h=>?_))
   .refine ai (sr (mq ?_));refine aq (nt (sr ?_));iterate 3 refine mq ?_
    obtain⟨U,F,h⟩:=aa h;refine jc (aW [.tmp 20,.tmp 21,.tmp 22] rfl rfl I3 rfl (lM hK k k a0 y6.2 a2 U F)) ?_;refine nt (ai (sr (cy rfl (DL rfl G9 (by decide)) ⟨rfl,trivial⟩ ?_)));refine xr ?_;refine xr ?_;refine nt (cv h (λh=>?_) (λh=>?_))
    .refine sr (aX rfl rfl rfl (be rfl Gz N7) trivial λVt=>?_);refine aN rfl rfl (aI rfl NL trivial rfl rfl) ⟨rfl,rfl,trivial⟩ ?_;refine nt (ak (cN ?_));refine da (aG rfl Ef) ?_;refine ea 0 (ay rfl cF o8 rfl) ?_;refine dm ?_;refine da (lH rfl) ?_;refine da (g7 rfl io) ?_;refine da (iS 1 false rfl IW rfl rfl) ?_;refine da (jC (t:=Ti) rfl cF (hK.sub 3 1 rfl (le_of_ble_eq_true rfl)) rfl rfl) ?_;refine df dS ?_;refine jb (jX rfl) ?_;refine nt (ci h (λh=>?_) (λh=>?_))
     .refine ab (mq ?_);obtain⟨qt,j,h⟩:=aa h;refine jb (ee rfl ru cF (am j).1 (am j).2) ?_;refine fr 3 ?_;refine aN rfl rfl (gY (t:=Ti) (off:=0) (i:=y6.2) (N:=5) rfl cF .int rfl rfl rfl rfl (am j).1 (am j).2 rfl) ⟨rfl,rfl,trivial⟩ ?_;refine aE (aO (bn ?_));exact jz ((),List.set y6.1 (Int.toNat y6.2) (-1:Int)) h [2,3,0]
     .refine bi (aO (bn ?_));exact jz ((),y6.1) h [1,2,3]
    .refine sr (cy rfl (Lc rfl Ox (by decide)) ⟨rfl,trivial⟩ ?_);refine xr ?_;refine xr ?_;refine nt (cw h (λh=>?_) (λh=>?_))
     .refine sr (aX rfl rfl rfl (be rfl Ny R2) trivial λzz=>?_);refine aN rfl rfl (aI rfl QC trivial rfl rfl) ⟨rfl,rfl,trivial⟩ ?_;refine nt (sr (mq ?_));obtain⟨mw,s,h⟩:=aa h;refine jb (ee rfl ru cF (am s).1 (am s).2) ?_;obtain⟨Y,D,h⟩:=aa h;refine fr 1 ?_;refine ka (nP (t:=Ti) (off:=0) (i:=y6.2) (N:=5) rfl cF (λ_=>rfl) rfl rfl rfl rfl D) ?_;refine jb (jX rfl) ?_;refine nt (ci h (λh=>?_) (λh=>?_))
      .refine ab ?_;iterate 2 refine mq ?_
       obtain⟨u16,l,h⟩:=aa h;refine jb (ee rfl ru cF (am l).1 (am l).2) ?_;obtain⟨X,y,h⟩:=aa h;refine ka (nP (t:=Ti) (off:=0) (i:=y6.2) (N:=5) rfl cF (λ_=>rfl) rfl rfl rfl rfl y) ?_;obtain⟨O,x,h⟩:=aa h;refine jb (bj rfl x) ?_;obtain⟨mc,e,h⟩:=aa h;refine jb (ee rfl ru cF (am e).1 (am e).2) ?_;refine fr 3 ?_;refine aN rfl rfl (gY (t:=Ti) (off:=0) (i:=y6.2) (N:=5) rfl cF .int rfl rfl rfl rfl (am e).1 (am e).2 rfl) ⟨rfl,rfl,trivial⟩ ?_;refine aE (aO (bn ?_));exact jz ((),List.set y6.1 (Int.toNat y6.2) O) h [1,3,0]
      .refine sr (mq ?_);refine lo fG ?_;iterate 2 refine mq ?_
       obtain⟨Q,E,h⟩:=aa h;refine cy rfl (aW [.tmp 50,.tmp 51,.tmp 52,.tmp 53] rfl rfl NX rfl (j7 hK k a0 a1 y6.2 a2 Q E)) ⟨rfl,rfl,rfl,rfl,trivial⟩ ?_;refine jb (jX rfl) ?_;refine nt (ci h (λh=>?_) (λh=>?_))
       .refine ab (mq ?_);obtain⟨gw,c,h⟩:=aa h;refine jb (ee rfl ru cF (am c).1 (am c).2) ?_;refine fr 3 ?_;refine aN rfl rfl (gY (t:=Ti) (off:=0) (i:=y6.2) (N:=5) rfl cF .int rfl rfl rfl rfl (am c).1 (am c).2 rfl) ⟨rfl,rfl,trivial⟩ ?_;refine aE (aO (bn ?_));exact jz ((),List.set y6.1 (Int.toNat y6.2) 0) h [1,3,0]
       .refine bi (aO (bn ?_));exact jz ((),y6.1) h [0,2,3]
     .refine bi (aO (bn ?_));exact jz ((),y6.1) h [0,1,2]
   .refine ab ?_;obtain⟨J,u,h⟩:=aa h;refine jb (bj rfl u) ?_;refine mq (nl ?_);exact jz ((),(x8,J)) h [0,1,2]
  .refine xa ?_;exact jz ((),y6.1) h [1,2]
 .
  refine sr (fr 1 ?_);refine lo fG ?_;refine fr 1 ?_;refine aN rfl rfl (aI rfl fG rfl rfl rfl) ⟨rfl,rfl,trivial⟩ ?_;refine nt (aA ?_);obtain rfl:=Option.some.inj h;exact aP () [.rep Tr x4] 0 ⟨⟨_,_,_,_,_,rfl,(.head _),fG,(s7),rfl⟩,trivial⟩ rfl
def iy(k:Nat)(a0:List Int):Option (List Int):=
 (cL (bD (length a0))).bind λ_=>some a0
theorem sN(k:Nat)(a0:List Int)(r:List Int)(h:iy k a0=some r):
 dz Tryz.prog 62 [.rep Tl a0] [] (λz:Value=>(bN [.eq z],[.sl z 3 Ti r])):=by
 unfold iy at h
 replace h:=bg h
 refine dz.of 8 Tryz.func62 rfl Tryz.ntmps62 rfl λS w0=>?_
 obtain⟨u1,c,h⟩:=aa h
 cases h
 refine sr ?_
 refine cq ?_
 refine nt ?_
 refine ak ?_
 refine sr ?_
 refine mq ?_
 refine aM (Δ:=[]) (F:=_) (λ_ _ _=>ah rfl _) rfl rfl (K9 rfl ig) ⟨rfl,rfl,trivial⟩ λb=>?_
 refine nt ?_
 refine iq rfl (λhb=>?_) (λhb=>?_)
 .
  refine sr (cq (nt (rx ?_)));obtain rfl:=b.2 hb;refine bK (SE.nil 3 Ti) ?_;exact aP (.slice none 0 0) [.eq (.slice none 0 0)] 1 ⟨rfl,trivial⟩ rfl
 .
  refine sk (sr (aX rfl rfl rfl (lI (t:=Ti) [] [] rfl rfl dO .nil rfl rfl) trivial λv1=>?_));refine mq ?_;refine dK rfl rfl rfl (bV rfl rfl dO (by simpa using am c)) ⟨rfl,rfl,trivial⟩ λv2=>?_;refine aq (nt (aA ?_));exact aP v2 [.eq v2] 1 ⟨rfl,trivial⟩ rfl
def fA(k:Nat)(a0:ae)(a1:(List (List Int))):Nat->Int->Option (Except Bool Unit)
 |0,_=>none
 |n+1,y5=>
  if y5 < (a1.length:Int) then((aF a1 y5).bind λx7=>
  if¬((x7.length:Int)=a0.1) then(some (.error false)) else((ck (y5+1)).bind λx8=>
  fA k a0 a1 n x8)) else(some (.ok ()))
def lr(k:Nat)(a0:ae)(a1:(List (List Int))):Option Bool:=
 (ck ((a0.2.2.2.2.1.length:Int)+1)).bind λx2=>
 if¬((a1.length:Int)=x2) then(some false) else(bE (α:=Unit) (fA k a0 a1 k 0) (some) λ_=>
 some true)
theorem rX(k:Nat)(a0:ae)(a1:(List (List Int)))(r:Bool)(h:lr k a0 a1=some r):
 dz Tryz.prog 29 [.rep an a0,.rep (.slice Tl) a1] [] (λ_:Unit=>(bN [.eq (.bool r)],[])):=by
 unfold lr at h
 replace h:=bg h
 refine dz.of 27 Tryz.func29 rfl Tryz.ntmps29 rfl λS w0=>?_
 refine sr ?_
 refine bx λb1=>?_
 refine cq ?_
 refine nt ?_
 refine ak ?_
 refine sr ?_
 refine mq ?_
 refine ol mM ?_
 refine fl dh ?_
 refine lo ix ?_
 refine ol vG ?_
 obtain⟨x2,l,h⟩:=aa h
 refine jb (bj rfl l) ?_
 refine jb (fL rfl) ?_
 refine nt ?_
 refine cn h (λh=>?_) (λh=>?_)
 .
  refine sr (cq (nt (rx ?_)));cases h;exact ra
 .
  refine sk (dk (Z:=Unit) (α:=Unit) (λz4 x3=>[]) (λz4 x3=>[]) (λe=>e=r) h (λe h=>Option.some.inj h) (λK hR h=>?_) (λz4 x3 h=>?_))
  .refine sr (cq (nt (ai ?_)));refine aD (λz6 y5=>[(1,.rep (.slice Tl) a1),(2,Pt b1),(5,I y5)]) (λz6 y5=>[.obj b1 28 (.rep an a0)]) (fA k a0 a1) k () 0 (λ_=>rfl) h (SE.fin [0] ⟨rfl,rfl,rfl,trivial⟩ rfl) (λn z6 y5 h=>?_);unfold fA at h;refine ak (sr ?_);iterate 2 refine mq ?_
   refine ol mM ?_;refine jb (bo rfl) ?_;refine nt (ci h (λh=>?_) (λh=>?_))
   .refine sk (ak (ai (ak (cN ?_))));refine dm ?_;refine dm ?_;obtain⟨x7,j,h⟩:=aa h;refine db (aK (t:=Tl) rfl mM dN j) ?_;refine da (ao (t:=Tl) rfl dN rfl) ?_;refine da (rN rfl rfl ig) ?_;refine da (aG rfl gG) ?_;refine ea 0 (ay rfl cF o8 rfl) ?_;refine df dS ?_;refine jb (fL rfl) ?_;refine nt (cn h (λh=>?_) (λh=>?_))
    .refine sr (cq (nt (aA (br (bB (bv ?_))))));obtain rfl:=hR _ h;exact ra
    .refine bi (aO (tn (ab (mq ?_))));obtain⟨x8,c,h⟩:=aa h;refine jb (bj rfl c) ?_;refine aq (nl ?_);exact jz ((),x8) h [0]
   .refine xa ?_;exact jz ((),()) h []
  .refine sr (cq (nt (aA ?_)));cases h;exact ra
def iD(k:Nat)(a0:bJ)(a1:yD):Option (bp×bJ):=
 (ck (a1.1 - 1)).bind λx3=>
 (bZ k (a0.1,a0.2.1,a0.2.2) x3).bind λr4=>
 (bZ k (r4.2.1,r4.2.2.1,r4.2.2.2) (a1.2.2.2.2.1.length:Int)).bind λr5=>
 (eM k (r5.2.1,r5.2.2.1,r5.2.2.2) 2).bind λr6=>
 some ((r4.1,r5.1,r6.1),(r6.2.1,r6.2.2.1,r6.2.2.2))
theorem tg(k:Nat)(a0:bJ)(c:Nat)(a1:yD)(r:bp×bJ)(h:iD k a0 a1=some r):
 dz Tryz.prog 30 [Pt c,.rep DD a1] [.obj c 60 (.agg (.pair (.rep Tl a0.1) (.pair (I a0.2.1) (.eq (.int .u64 a0.2.2)))))] (λ_:Unit=>(bN [.rep aR r.1],[.obj c 60 (.agg (.pair (.rep Tl r.2.1) (.pair (I r.2.2.1) (.eq (.int .u64 r.2.2.2)))))])):=by
 unfold iD at h
 replace h:=bg h
 refine dz.of 18 Tryz.func30 rfl Tryz.ntmps30 rfl λS w0=>?_
 refine sr ?_
 refine bx λb1=>?_
 refine aX rfl rfl rfl (be rfl Br Jj) trivial λb2=>?_
 refine nt ?_
 refine ak ?_
 refine Gq [1,2,3,5,6,7,8,10,0,4,9,11,12,13] (by kernel_rfl) ?_
 refine ba rfl rfl rfl (aG rfl gG) ⟨rfl,trivial⟩ ?_
 refine ff 1 rfl rfl rfl rfl (ay rfl cF o8 rfl) ⟨rfl,trivial⟩ ?_
 obtain⟨x3,E,h⟩:=aa h
 refine ba rfl rfl rfl (dL rfl E) ⟨rfl,rfl,trivial⟩ ?_
 refine ba rfl rfl rfl (aV rfl) ⟨rfl,trivial⟩ ?_
 refine ba rfl rfl rfl (aG rfl dh) ⟨rfl,trivial⟩ ?_
 refine ff 1 rfl rfl rfl rfl (ay rfl ix o8 rfl) ⟨rfl,trivial⟩ ?_
 refine ba rfl rfl rfl (rN rfl rfl vG) ⟨rfl,trivial⟩ ?_
 refine ba rfl rfl rfl (aV rfl) ⟨rfl,trivial⟩ ?_
 refine ba rfl rfl rfl (aV rfl) ⟨rfl,trivial⟩ ?_
 refine ry 9 [true,true,true,false,false,false,false,false,true] [9,14] [1] [.obj b1 28 (.rep DD a1)] rfl (by kernel_rfl) (by kernel_rfl) (by kernel_rfl) dS (λvs hv hB=>?_)
 obtain⟨w0,Vt,rfl,D⟩:=ap hv
 obtain⟨w1,zz,rfl,y⟩:=ap D
 obtain⟨w2,qt,rfl,x⟩:=ap y
 obtain⟨w3,mw,rfl,u⟩:=ap x
 obtain⟨w4,mc,rfl,s⟩:=ap u
 obtain⟨w5,gw,rfl,n⟩:=ap s
 obtain⟨w6,Z,rfl,l⟩:=ap n
 obtain⟨w7,Y,rfl,j⟩:=ap l
 obtain⟨w8,X,rfl,e⟩:=ap j
 obtain rfl:=nZ e
 refine⟨[1,0,2],[.obj b2 46 (.agg (.pair (I 0) (.pair (I 0) (.eq (.bool false))))),.obj c 60 (.agg (.pair (.rep Tl a0.1) (.pair (I a0.2.1) (.eq (.int .u64 a0.2.2)))))],by kernel_rfl,by decide,?_⟩
 obtain⟨r4,M,h⟩:=aa h
 have U:=cp k (a0.1,a0.2.1,a0.2.2) c x3 r4 M
 refine py 1 rfl ?_
 refine tK rfl rfl rfl rfl (ax [.tmp 5,.tmp 8] rfl rfl I1 rfl U) ⟨rfl,rfl,trivial⟩ (by kernel_rfl) ?_
 obtain⟨r5,J,h⟩:=aa h
 have Q:=cp k (r4.2.1,r4.2.2.1,r4.2.2.2) c (a1.2.2.2.2.1.length:Int) r5 J
 refine tK rfl rfl rfl rfl (ax [.tmp 10,.tmp 13] rfl rfl I1 rfl Q) ⟨rfl,rfl,trivial⟩ (by kernel_rfl) ?_
 refine P7 (by kernel_rfl) ?_
 obtain⟨r6,F,h⟩:=aa h
 have O:=im k (r5.2.1,r5.2.2.1,r5.2.2.2) c 2 r6 F
 refine fr 1 ?_
 refine kb (ax [.tmp 15,.const (.int .i64 (2))] rfl rfl L6 rfl O) ?_
 refine jc (eE [(0,.tmp 9,_),(1,.tmp 14,_),(2,.tmp 16,_)] rfl QI Br N5 (jV ⟨rfl,rfl,rfl,trivial⟩) rfl) ?_
 refine fr 2 ?_
 refine aN rfl rfl (aI rfl sM trivial rfl rfl) ⟨rfl,rfl,trivial⟩ ?_
 refine nt ?_
 refine aA ?_
 refine bK (gq (a:=.agg (.pair (I r4.1) (.pair (I r5.1) (.eq (.bool r6.1))))) (a':=.rep aR (r4.1,r5.1,r6.1)) (iY (.agg (.pair .int (.pair .int .bool))))) ?_
 refine bK (SE.fin (Γ':=[(4,_)]) [1,0,2] ⟨rfl,trivial⟩ rfl) ?_
 cases h
 exact aP () [.rep aR (r4.1,r5.1,r6.1)] 1 ⟨⟨_,_,_,_,_,rfl,(.tail _ (.head _)),sM,(s7),rfl⟩,trivial⟩ rfl
def dx{σ:Type}(k:Nat)(a0:Int)(a3:Int)(self:Int->Int->σ->Option (Bool×σ)):Nat->(Int×σ)->Option (Except (Bool×σ) (σ))
 |0,_=>none
 |n+1,y5=>
  if y5.1 < a3 then((gh k a0 y5.1).bind λr7=>
  (ck (y5.1+1)).bind λx8=>
  (self r7 x8 y5.2).bind λr9=>
  if¬(r9.1=true) then(some (.error (false,r9.2))) else((ck (y5.1+1)).bind λc=>
  dx k a0 a3 self n (c,r9.2))) else(some (.ok y5.2))
def de{σ:Type}(k:Nat)(Y:σ->Int->Option (σ×Bool))(a3:Int):Nat->Int->Int->σ->Option (Bool×σ)
 |0,_,_,_=>none
 |m0+1,a0,a1,s0=>
  (Y s0 a0).bind λr1=>
  if¬(r1.2=true) then(some (false,r1.1)) else(bE (α:=σ) (dx k a0 a3 (de k Y a3 m0) k (a1,r1.1)) (some) λx3=>
  some (true,x3))
theorem s9{M:Md Tryz.prog}{σ Z:Type}(E:Z->σ->List D)(l:Nat)(Y:σ->Int->Option (σ×Bool))(k:Nat)(u:Nat)(a3:Int)(j:Nat)(c:Nat)(hY:∀z s p r,Y s p=some r->YT M l [.eq (.int .u8 p)] (E z s) (λz':Z=>(.eq (.bool r.2),E z' r.1))):
 ∀(n:Nat) (a0:Int) (a1:Int) (z0:Z) (s0:σ) (r:Bool×σ),de k Y a3 n a0 a1 s0=some r->ce M 71 [.eq (.int .u8 a0),I a1,Pt u,Pt j,Pt c] ([.obj u 80 (.eq (.func (.yield l) #[] #[])),.obj j 3 (I a3),.obj c 79 (.eq (.func (.func 71) #[] #[(Pv u),(Pv j),(Pv c)]))]++E z0 s0) (λz:Z=>(bN [.eq (.bool r.1)],[.obj u 80 (.eq (.func (.yield l) #[] #[])),.obj j 3 (I a3),.obj c 79 (.eq (.func (.func 71) #[] #[(Pv u),(Pv j),(Pv c)]))]++E z r.2)):=by
 intro n
 induction n with
 |zero=>intro a0 a1 z0 s0 r h;cases h
 |succ m0 ih=>
  intro a0 a1 z0 s0 r h;rw [de] at h;replace h:=bg h;refine ce.of 27 Tryz.func71 rfl Tryz.ntmps71 rfl λS w0=>?_;refine sr (cq (nt (ak (sr ?_))));refine lo Tu ?_;refine mq ?_;obtain⟨r1,U,h⟩:=aa h;refine fr 2 ?_;refine fr 2 ?_;refine fr 2 ?_;refine JB [.obj u 80 (.eq (.func (.yield l) #[] #[])),.obj j 3 (I a3),.obj c 79 (.eq (.func (.func 71) #[] #[(Pv u),(Pv j),(Pv c)]))] rfl rfl rfl (K2 [.tmp 10] rfl rfl rfl (hY z0 s0 a0 r1 U)) ⟨rfl,rfl,trivial⟩ λz2=>?_;refine ja (gZ rfl) ?_;refine nt (cw h (λh=>?_) (λh=>?_))
  .refine sr (cq (nt (rx ?_)));cases h;exact qi z2 [_] ⟨rfl,trivial⟩ rfl
  .refine sk (dk (Z:=Z) (α:=σ) (λz4 x3=>[]) (λz4 x3=>[.obj u 80 (.eq (.func (.yield l) #[] #[])),.obj j 3 (I a3),.obj c 79 (.eq (.func (.func 71) #[] #[(Pv u),(Pv j),(Pv c)]))]++E z4 x3) (λe=>e=r) h (λe h=>Option.some.inj h) (λK hR h=>?_) (λz4 x3 h=>?_))
   .refine sr (mq ?_);refine aq (nt (ai ?_));refine aD (Z:=Z) (α:=Int×σ) (λz6 y5=>[(0,.eq (.int .u8 a0)),(3,Pt j),(4,Pt c),(8,I y5.1)]) (λz6 y5=>[.obj j 3 (I a3),.obj c 79 (.eq (.func (.func 71) #[] #[(Pv u),(Pv j),(Pv c)])),.obj u 80 (.eq (.func (.yield l) #[] #[]))]++E z6 y5.2) (dx k a0 a3 (de k Y a3 m0)) k z2 (a1,r1.1) (λ_=>rfl) h (li [.obj u 80 (.eq (.func (.yield l) #[] #[])),.obj j 3 (I a3),.obj c 79 (.eq (.func (.func 71) #[] #[(Pv u),(Pv j),(Pv c)]))] (E z2 r1.1) [1,2,0] ⟨rfl,rfl,rfl,rfl,trivial⟩ rfl) (λn z6 y5 h=>?_);unfold dx at h;refine ak (sr (mq ?_));refine lo cF ?_;refine jb (bo rfl) ?_;refine nt (ci h (λh=>?_) (λh=>?_))
    .refine sk (ak (ai (ak (cN ?_))));refine ea 1 (ay rfl Oy o8 rfl) ?_;refine dm ?_;refine dm ?_;obtain⟨r7,Q,h⟩:=aa h;refine db (ax [.tmp 20,.tmp 21] rfl rfl PE rfl (kG k a0 y5.1 r7 Q)) ?_;refine dm ?_;obtain⟨x8,J,h⟩:=aa h;refine db (bj rfl J) ?_;refine df dS ?_;obtain⟨r9,O,h⟩:=aa h;refine fr 1 ?_;refine fr 1 ?_;refine fr 2 ?_;refine A8 rfl rfl rfl (rO (fs:=[]) (cs:=[(Pv u),(Pv j),(Pv c)]) (ags:=[.eq (.int .u8 r7),I x8]) [.tmp 22,.tmp 24] rfl rfl Rz rfl (ih r7 x8 z6 y5.2 r9 O)) ⟨rfl,rfl,rfl,trivial⟩ λx=>?_;refine ja (gZ rfl) ?_;refine nt (cw h (λh=>?_) (λh=>?_))
     .refine sr (cq (nt (aA (br (bB (bv ?_))))));obtain rfl:=hR _ h;exact qi x [_] ⟨rfl,trivial⟩ rfl
     .refine bi (aO (tn (ab (mq ?_))));obtain⟨F,y,h⟩:=aa h;refine jb (bj rfl y) ?_;refine aq (nl ?_);exact mZ (x,(F,r9.2)) h (li [.obj u 80 (.eq (.func (.yield l) #[] #[])),.obj j 3 (I a3),.obj c 79 (.eq (.func (.func 71) #[] #[(Pv u),(Pv j),(Pv c)]))] (E x r9.2) [1,2,0] ⟨rfl,rfl,rfl,rfl,trivial⟩ rfl)
    .refine xa ?_;exact mZ (z6,y5.2) h (li [.obj j 3 (I a3),.obj c 79 (.eq (.func (.func 71) #[] #[(Pv u),(Pv j),(Pv c)])),.obj u 80 (.eq (.func (.yield l) #[] #[]))] (E z6 y5.2) [2,0,1] trivial rfl)
   .refine sr (cq (nt (aA ?_)));cases h;exact qi z4 [_] ⟨rfl,trivial⟩ rfl
def i8{σ:Type}(k:Nat)(Y:σ->Int->Option (σ×Bool))(a1:Int)(s0:σ):Option (σ):=
 (de k Y a1 k 0 0 s0).bind λr3=>
 some r3.2
theorem pi{M:Md Tryz.prog}{σ Z:Type}(E:Z->σ->List D)(l:Nat)(Y:σ->Int->Option (σ×Bool))(k:Nat)(a1:Int)(c:Nat)(hY:∀z s p r,Y s p=some r->YT M l [.eq (.int .u8 p)] (E z s) (λz':Z=>(.eq (.bool r.2),E z' r.1))):
 ∀(z0:Z) (s0:σ) (r:σ),i8 k Y a1 s0=some r->ce M 70 [.eq (.func (.yield l) #[] #[]),Pt c] ([.obj c 3 (I a1)]++E z0 s0) (λz:Z=>(bN [],[.obj c 3 (I a1)]++E z r)):=by
 intro z0 s0 r h
 unfold i8 at h
 replace h:=bg h
 refine ce.of 7 Tryz.func70 rfl Tryz.ntmps70 rfl λS w0=>?_
 refine sr ?_
 refine bx λb1=>?_
 refine nt ?_
 refine sr ?_
 refine aX rfl rfl rfl (be rfl Tf UK) trivial λb2=>?_
 refine nt ?_
 refine sr ?_
 refine jc (sU [] [.tmp 2,.tmp 1,.tmp 3] [] [(Pv b1),(Pv c),(Pv b2)] rfl rfl rfl) ?_
 refine aN rfl rfl (aI rfl Oy rfl rfl rfl) ⟨rfl,rfl,trivial⟩ ?_
 refine nt ?_
 refine ab ?_
 refine lo Oy ?_
 obtain⟨r3,e,h⟩:=aa h
 have j:=s9 E l Y k b1 a1 c b2 hY k 0 0 z0 s0 r3 e
 refine fr 2 ?_
 refine fr 2 ?_
 refine A8 rfl rfl rfl (rO (fs:=[]) (cs:=[(Pv b1),(Pv c),(Pv b2)]) (ags:=[.eq (.int .u8 0),I 0]) [.const (.int .u8 (0)),.const (.int .i64 (0))] rfl rfl Rz rfl j) ⟨rfl,rfl,rfl,trivial⟩ λz4=>?_
 refine aE ?_
 refine kz ?_
 refine bK (li (Γ':=[]) [.obj b1 80 (.eq (.func (.yield l) #[] #[])),.obj c 3 (I a1),.obj b2 79 (.eq (.func (.func 71) #[] #[(Pv b1),(Pv c),(Pv b2)]))] (E z4 r3.2) [1] trivial rfl) ?_
 cases h
 exact qi z4 [] trivial rfl
theorem rV(a0:Int):dz Tryz.prog 36 [I a0] [] (λz:Nat=>(bN [.eq (.func (.func 70) #[] #[(Pv z)])],[.obj z 3 (I a0)])):=by
 refine dz.of 4 Tryz.func36 rfl Tryz.ntmps36 rfl λS w0=>?_;refine sr (bx λz=>?_);refine cq (nt (sr ?_));refine ja (sU [] [.tmp 1] [] [(Pv z)] rfl rfl rfl) ?_;refine aq (nt (aA ?_));exact aP z [_] 1 ⟨rfl,trivial⟩ rfl
def dF(k:Nat)(a0:Int):Nat->((List Int)×Int)->Option (List Int)
 |0,_=>none
 |n+1,y3=>
  if y3.2 < 5 then((((eI k a0 y3.2).bind λr7=>
  if r7=true then((cL (bD (length y3.1+length [y3.2]))).bind λ_=>
  some (y3.1++[y3.2])) else(some y3.1)):Option ((List Int))).bind λx5=>
  (ck (y3.2+1)).bind λc=>
  dF k a0 n (x5,c)) else(some y3.1)
def fp(k:Nat)(a0:Int):Option (List Int):=
 ((dF k a0 k (([]:(List Int)),0)):Option ((List Int))).bind λx1=>
 some x1
theorem kH(k:Nat)(a0:Int)(r:(List Int))(h:fp k a0=some r):
 dz Tryz.prog 33 [.eq (.int .u8 a0)] [] (λ_:Unit=>(bN [.rep Tl r],[])):=by
 unfold fp at h
 replace h:=bg h
 refine dz.of 17 Tryz.func33 rfl Tryz.ntmps33 rfl λS w0=>?_
 refine sr ?_
 refine cq ?_
 refine nt ?_
 refine sr ?_
 refine cq ?_
 refine nt ?_
 refine aC (Z:=Value) (α:=(List Int)) (λz2 x1=>[(3,.eq z2)]) (λz2 x1=>[.sl z2 3 Ti x1]) h (λK h=>?_) (λz2 x1 h=>?_)
 .
  refine sr (fH rfl ?_);refine nt (ai (f5 (SE.nil 3 Ti) ?_));refine aD (λz4 y3=>[(0,.eq (.int .u8 a0)),(3,.eq z4),(5,I y3.2)]) (λz4 y3=>[.sl z4 3 Ti y3.1]) (dF k a0) k (.slice none 0 0) (([]:(List Int)),0) (λ_=>rfl) h (SE.fin [0] ⟨rfl,rfl,rfl,trivial⟩ rfl) (λn z4 y3 h=>?_);unfold dF at h;refine sr (jb (bo rfl) ?_);refine nt (ak (ci h (λh=>?_) (λh=>?_)))
  .refine sk (aC (Z:=Value) (α:=(List Int)) (λz6 x5=>[(0,.eq (.int .u8 a0)),(3,.eq z6),(5,I y3.2)]) (λz6 x5=>[.sl z6 3 Ti x5]) h (λK h=>?_) (λz6 x5 h=>?_))
   .refine ai (sr (mq ?_));refine aq (nt (sr ?_));iterate 2 refine mq ?_
    obtain⟨r7,l,h⟩:=aa h;refine jb (ax [.tmp 8,.tmp 9] rfl rfl I2 rfl (g9 k a0 y3.2 r7 l)) ?_;refine nt (cv h (λh=>?_) (λh=>?_))
    .refine ab ?_;iterate 2 refine mq ?_
     refine ja (bb (t:=Ti) [(.tmp 12,_)] [y3.2] rfl rfl dO (.cons rfl .int .nil) rfl rfl) ?_;obtain⟨u8,j,h⟩:=aa h;refine dK rfl rfl rfl (bV rfl rfl dO (am j)) ⟨rfl,rfl,trivial⟩ λv9=>?_;refine aq (aE (bn ?_));exact jz (v9,y3.1++[y3.2]) h [0]
    .refine bi (bn ?_);exact jz (z4,y3.1) h [0]
   .refine ab ?_;obtain⟨e,c,h⟩:=aa h;refine jb (bj rfl c) ?_;refine mq (nl ?_);exact jz (z6,(x5,e)) h [0]
  .refine xa ?_;exact jz (z4,y3.1) h [0]
 .
  refine sr (mq ?_);refine aq (nt (aA ?_));refine bK (ic [2,3,16] ⟨rfl,rfl,rfl,trivial⟩) ?_;cases h;exact ra
def kS(k:Nat)(a0:Int):Option Int:=
 (fp k a0).bind λr1=>
 some (r1.length:Int)
theorem oy(k:Nat)(a0:Int)(r:Int)(h:kS k a0=some r):
 dz Tryz.prog 42 [.eq (.int .u8 a0)] [] (λ_:Unit=>(bN [I r],[])):=by
 unfold kS at h
 replace h:=bg h
 refine dz.of 6 Tryz.func42 rfl Tryz.ntmps42 rfl λS w0=>?_
 refine sr ?_
 refine cq ?_
 refine nt ?_
 refine sr ?_
 refine mq ?_
 obtain⟨r1,c,h⟩:=aa h
 have e:=kH k a0 r1 c
 refine ja (ax [.tmp 3] rfl rfl PH rfl e) ?_
 refine ol ig ?_
 refine aq ?_
 refine nt ?_
 refine aA ?_
 cases h
 exact ra
def nW(k:Nat)(a0:Int):Option Int:=
 (fp k a0).bind λr1=>
 some (r1.length:Int)
def nU(k:Nat)(a0:Int)(a1:Int):Option Int:=
 (kS k a0).bind λr1=>
 (kS k a1).bind λr2=>
 (ck (r1 - r2)).bind λx3=>
 some x3
theorem ua(k:Nat)(a0:Int)(a1:Int)(c:Nat)(r:Int)(h:nU k a0 a1=some r):
 dz Tryz.prog 74 [.eq (.int .u8 a0),.eq (.int .u8 a1),Pt c] [.obj c 83 (.eq (.func (.func 42) #[] #[]))] (λ_:Unit=>(bN [I r],[.obj c 83 (.eq (.func (.func 42) #[] #[]))])):=by
 unfold nU at h
 replace h:=bg h
 refine dz.of 13 Tryz.func74 rfl Tryz.ntmps74 rfl λS w0=>?_
 refine sr ?_
 refine cq ?_
 refine nt ?_
 refine ak ?_
 refine cN ?_
 refine ea 0 (ay rfl QB o8 rfl) ?_
 refine dm ?_
 obtain⟨r1,l,h⟩:=aa h
 have s:=oy k a0 r1 l
 refine db (uj (fs:=[]) (cs:=[]) (ags:=[.eq (.int .u8 a0)]) [.tmp 7] rfl rfl RE rfl s) ?_
 refine ea 0 (ay rfl QB o8 rfl) ?_
 refine dm ?_
 refine df dS ?_
 obtain⟨r2,j,h⟩:=aa h
 have n:=oy k a1 r2 j
 refine jb (uj (fs:=[]) (cs:=[]) (ags:=[.eq (.int .u8 a1)]) [.tmp 10] rfl rfl RE rfl n) ?_
 obtain⟨x3,e,h⟩:=aa h
 refine jb (dL rfl e) ?_
 refine aq ?_
 refine nt ?_
 refine aA ?_
 cases h
 exact aP () [_] 1 ⟨rfl,trivial⟩ rfl
def mP(k:Nat)(a0:Int)(a1:Int):Option Int:=
 (nW k a0).bind λr1=>
 (nW k a1).bind λr2=>
 (ck (r1 - r2)).bind λx3=>
 some x3
def ge(k:Nat)(a0:(List Int)):Nat->(Int×Int)->Option Int
 |0,_=>none
 |n+1,y4=>
  if y4.2 < (a0.length:Int) then((((aF a0 y4.2).bind λx8=>
  (nU k x8 y4.1).bind λr9=>
  if r9 < 0 then((aF a0 y4.2).bind λe=>
  some e) else(some y4.1)):Option (Int)).bind λx6=>
  (ck (y4.2+1)).bind λc=>
  ge k a0 n (x6,c)) else(some y4.1)
def kC(k:Nat)(a0:(List Int)):Option Int:=
 if(a0.length:Int) < 1 then(none) else((aF a0 0).bind λx1=>
 ((ge k a0 k (x1,1)):Option (Int)).bind λx2=>
 some x2)
theorem qI(k:Nat)(a0:(List Int))(c_a1_0:Nat)(r:Int)(h:kC k a0=some r):
 dz Tryz.prog 73 [.rep (.slice (.int .u8)) a0,.eq (.func (.func 74) #[] #[(Pv c_a1_0)])] [.obj c_a1_0 83 (.eq (.func (.func 42) #[] #[]))] (λ_:Unit=>(bN [.eq (.int .u8 r)],[.obj c_a1_0 83 (.eq (.func (.func 42) #[] #[]))])):=by
 unfold kC at h
 replace h:=bg h
 refine dz.of 33 Tryz.func73 rfl Tryz.ntmps73 rfl λS w0=>?_
 refine sr ?_
 refine cq ?_
 refine nt ?_
 refine ak ?_
 refine sr ?_
 refine mq ?_
 refine ol Bo ?_
 refine jb (bo rfl) ?_
 refine nt ?_
 refine ci h (λh=>?_) (λh=>?_)
 .
  cases h
 .
  refine sk (sr (mq ?_));obtain⟨x1,u,h⟩:=aa h;refine jb (aK (t:=(.int .u8)) rfl Bo qE u) ?_;refine ja (ao (t:=(.int .u8)) rfl qE rfl) ?_;refine aq (nt ?_);refine aC (Z:=Unit) (α:=Int) (λz3 x2=>[(5,.eq (.int .u8 x2))]) (λz3 x2=>[.obj c_a1_0 83 (.eq (.func (.func 42) #[] #[]))]) h (λK h=>?_) (λz3 x2 h=>?_)
  .refine sr (cq (nt (ai ?_)));refine aD (λz5 y4=>[(0,.rep (.slice (.int .u8)) a0),(1,.eq (.func (.func 74) #[] #[(Pv c_a1_0)])),(5,.eq (.int .u8 y4.1)),(6,I y4.2)]) (λz5 y4=>[.obj c_a1_0 83 (.eq (.func (.func 42) #[] #[]))]) (ge k a0) k () (x1,1) (λ_=>rfl) h (SE.fin [0] ⟨rfl,rfl,rfl,rfl,trivial⟩ rfl) (λn z5 y4 h=>?_);unfold ge at h;refine ak (sr ?_);iterate 2 refine mq ?_
   refine ol Bo ?_;refine jb (bo rfl) ?_;refine nt (ci h (λh=>?_) (λh=>?_))
   .refine sk (aC (Z:=Unit) (α:=Int) (λz7 x6=>[(0,.rep (.slice (.int .u8)) a0),(1,.eq (.func (.func 74) #[] #[(Pv c_a1_0)])),(5,.eq (.int .u8 x6)),(6,I y4.2)]) (λz7 x6=>[.obj c_a1_0 83 (.eq (.func (.func 42) #[] #[]))]) h (λK h=>?_) (λz7 x6 h=>?_))
    .refine ai (sr ?_);iterate 3 refine mq ?_
     obtain⟨x8,s,h⟩:=aa h;refine jb (aK (t:=(.int .u8)) rfl Bo qE s) ?_;refine ja (ao (t:=(.int .u8)) rfl qE rfl) ?_;refine mq ?_;obtain⟨r9,x,h⟩:=aa h;refine kc (uj (fs:=[]) (cs:=[(Pv c_a1_0)]) (ags:=[.eq (.int .u8 x8),.eq (.int .u8 y4.1)]) [.tmp 24,.tmp 25] rfl rfl Ui rfl (ua k x8 y4.1 c_a1_0 r9 x)) ?_;refine jb (bo rfl) ?_;refine nt (ci h (λh=>?_) (λh=>?_))
     .refine ab ?_;iterate 2 refine mq ?_
      obtain⟨l,e,h⟩:=aa h;refine jb (aK (t:=(.int .u8)) rfl Bo qE e) ?_;refine ja (ao (t:=(.int .u8)) rfl qE rfl) ?_;refine aq (aE (bn ?_));exact jz ((),l) h [0]
     .refine bi (bn ?_);exact jz ((),y4.1) h [0]
    .refine ab (mq ?_);obtain⟨j,c,h⟩:=aa h;refine jb (bj rfl c) ?_;refine aq (nl ?_);exact jz ((),(x6,j)) h [0]
   .refine xa ?_;exact jz ((),y4.1) h [0]
  .refine sr (mq ?_);refine aq (nt (aA ?_));cases h;exact aP () [_] 1 ⟨rfl,trivial⟩ rfl
def dD(k:Nat)(a0:(List Int)):Nat->(Int×Int)->Option Int
 |0,_=>none
 |n+1,y4=>
  if y4.2 < (a0.length:Int) then((((aF a0 y4.2).bind λx8=>
  (mP k x8 y4.1).bind λr9=>
  if r9 < 0 then((aF a0 y4.2).bind λe=>
  some e) else(some y4.1)):Option (Int)).bind λx6=>
  (ck (y4.2+1)).bind λc=>
  dD k a0 n (x6,c)) else(some y4.1)
def nh(k:Nat)(a0:(List Int)):Option Int:=
 if(a0.length:Int) < 1 then(none) else((aF a0 0).bind λx1=>
 ((dD k a0 k (x1,1)):Option (Int)).bind λx2=>
 some x2)
def nV(k:Nat)(a0:(List Int)):Option Int:=
 (kC k a0).bind λr2=>
 some r2
theorem wx(k:Nat)(a0:(List Int))(r:Int)(h:nV k a0=some r):
 dz Tryz.prog 41 [.rep (.slice (.int .u8)) a0,.eq (.func (.func 42) #[] #[])] [] (λ_:Unit=>(bN [.eq (.int .u8 r)],[])):=by
 unfold nV at h
 replace h:=bg h
 refine dz.of 8 Tryz.func41 rfl Tryz.ntmps41 rfl λS w0=>?_
 refine sr ?_
 refine bx λb1=>?_
 refine cq ?_
 refine nt ?_
 refine sr ?_
 refine mq ?_
 refine ja (sU [] [.tmp 3] [] [(Pv b1)] rfl rfl rfl) ?_
 obtain⟨r2,c,h⟩:=aa h
 have e:=qI k a0 b1 r2 c
 refine kb (ax [.tmp 5,.tmp 6] rfl rfl Uj rfl e) ?_
 refine aq ?_
 refine nt ?_
 refine aA ?_
 cases h
 exact ra
def pj(k:Nat)(a0:(List Int)):Option Int:=
 (nh k a0).bind λr2=>
 some r2
def mB(k:Nat)(a0:(List Int))(a1:(List Int)):Nat->Int->Option (Except Bool Unit)
 |0,_=>none
 |n+1,y3=>
  ((if y3 < (a0.length:Int) then(some (decide (y3 < (a1.length:Int)))) else(some false)):Option (Bool)).bind λx5=>
  if x5=true then((aF a0 y3).bind λx7=>
  (aF a1 y3).bind λx8=>
  if¬(x7=x8) then((aF a0 y3).bind λx9=>
  (aF a1 y3).bind λe=>
  some (.error (decide (x9 < e)))) else((ck (y3+1)).bind λc=>
  mB k a0 a1 n c)) else(some (.ok ()))
def vk(k:Nat)(a0:(List Int))(a1:(List Int)):Option Bool:=
 bE (α:=Unit) (mB k a0 a1 k 0) (some) λ_=>
 some (decide ((a0.length:Int) < (a1.length:Int)))
theorem Ap(k:Nat)(a0:(List Int))(a1:(List Int))(r:Bool)(h:vk k a0 a1=some r):
 dz Tryz.prog 75 [.rep Tl a0,.rep Tl a1] [] (λ_:Unit=>(bN [.eq (.bool r)],[])):=by
 unfold vk at h
 replace h:=bg h
 refine dz.of 41 Tryz.func75 rfl Tryz.ntmps75 rfl λS w0=>?_
 refine sr ?_
 refine cq ?_
 refine nt ?_
 refine dk (Z:=Unit) (α:=Unit) (λz2 x1=>[(0,.rep Tl a0),(1,.rep Tl a1)]) (λz2 x1=>[]) (λe=>e=r) h (λe h=>Option.some.inj h) (λK hR h=>?_) (λz2 x1 h=>?_)
 .
  refine sr (cq (nt (ai ?_)));refine aD (λz4 y3=>[(0,.rep Tl a0),(1,.rep Tl a1),(5,I y3)]) (λz4 y3=>[]) (mB k a0 a1) k () 0 (λ_=>rfl) h (SE.fin [] ⟨rfl,rfl,rfl,trivial⟩ rfl) (λn z4 y3 h=>?_);unfold mB at h;refine ak (aC (Z:=Unit) (α:=Bool) (λz6 x5=>[(0,.rep Tl a0),(1,.rep Tl a1),(5,I y3),(15,.eq (.bool x5))]) (λz6 x5=>[]) h (λK h=>?_) (λz6 x5 h=>?_))
  .refine ab ?_;iterate 2 refine mq ?_
   refine ol ig ?_;refine jb (bo rfl) ?_;refine mq ?_;refine cj (s:=10) rfl (λhb=>?_) (λhb=>?_)
   .replace h:=eQ (sG hb) h;refine gm ?_;refine gm ?_;refine ga (rN rfl rfl ig) ?_;refine gb (bo rfl) ?_;refine pt (nl ?_);exact jz ((),decide (y3 < (a1.length:Int))) h []
   .replace h:=cQ (sH hb) h;iterate 4 refine gn ?_
    refine pf (nl ?_);exact jz ((),false) h []
  .refine cv h (λh=>?_) (λh=>?_)
   .refine sk (ak (ai (ak (cN ?_))));refine dm ?_;refine dm ?_;obtain⟨x7,y,h⟩:=aa h;refine db (aK (t:=Ti) rfl ig cF y) ?_;refine da (ao (t:=Ti) rfl cF rfl) ?_;refine dm ?_;refine dm ?_;obtain⟨x8,x,h⟩:=aa h;refine db (aK (t:=Ti) rfl ig cF x) ?_;refine da (ao (t:=Ti) rfl cF rfl) ?_;refine df dS ?_;refine jb (fL rfl) ?_;refine nt (cn h (λh=>?_) (λh=>?_))
    .refine ak (cN ?_);refine dm ?_;refine dm ?_;obtain⟨x9,u,h⟩:=aa h;refine db (aK (t:=Ti) rfl ig cF u) ?_;refine da (ao (t:=Ti) rfl cF rfl) ?_;refine dm ?_;refine dm ?_;obtain⟨D,j,h⟩:=aa h;refine db (aK (t:=Ti) rfl ig cF j) ?_;refine da (ao (t:=Ti) rfl cF rfl) ?_;refine df dS ?_;refine jb (bo rfl) ?_;refine aq (nt (aA (br (bB (bv ?_)))));obtain rfl:=hR _ h;exact ra
    .refine bi (aO (tn (ab (mq ?_))));obtain⟨l,c,h⟩:=aa h;refine jb (bj rfl c) ?_;refine aq (nl ?_);exact jz ((),l) h []
   .refine xa ?_;exact jz ((),()) h []
 .
  refine sr (mq ?_);refine ol ig ?_;refine mq ?_;refine ol ig ?_;refine jb (bo rfl) ?_;refine aq (nt (aA ?_));cases h;exact ra
def kY(k:Nat)(y4:(List (List Int))×Int)(r9:(List (List Int))):Nat->((List (List Int))×Int)->Option (List (List Int))
 |0,_=>none
 |n+1,c=>
  if c.2 < (r9.length:Int) then((aF r9 c.2).bind λe=>
  (cL (bD (length e+length [y4.2]))).bind λ_=>
  (cL (bD (length c.1+length [e++[y4.2]]))).bind λ_=>
  (ck (c.2+1)).bind λh=>
  kY k y4 r9 n (c.1++[e++[y4.2]],h)) else(some c.1)
def kZ(k:Nat)(a0:Int)(a1:Int)(self:Int->Int->Option ((List (List Int)))):Nat->((List (List Int))×Int)->Option (List (List Int))
 |0,_=>none
 |n+1,y4=>
  if y4.2 < a0 then((((ck (a1 - 1)).bind λx8=>
  (self y4.2 x8).bind λr9=>
  kY k y4 r9 k (y4.1,0)):Option ((List (List Int)))).bind λx6=>
  (ck (y4.2+1)).bind λc=>
  kZ k a0 a1 self n (x6,c)) else(some y4.1)
def kW(k:Nat):Nat->((List (List Int))×Int)->Option (List (List Int))
 |0,_=>none
 |n+1,c=>
  ((if 0 < c.2 then((aF c.1 c.2).bind λx=>
  (ck (c.2 - 1)).bind λu=>
  (aF c.1 u).bind λs=>
  (vk k x s).bind λD=>
  some D) else(some false)):Option (Bool)).bind λy=>
  if y=true then((ck (c.2 - 1)).bind λh=>
  (ck (c.2 - 1)).bind λr=>
  (aF c.1 r).bind λe=>
  (aF c.1 c.2).bind λl=>
  (aF c.1 c.2).bind λF=>
  (aF (List.set c.1 (Int.toNat c.2) e) h).bind λE=>
  (ck (c.2 - 1)).bind λj=>
  kW k n (List.set (List.set c.1 (Int.toNat c.2) e) (Int.toNat h) l,j)) else(some c.1)
def kX(k:Nat):Nat->((List (List Int))×Int)->Option (List (List Int))
 |0,_=>none
 |n+1,c=>
  if c.2 < (c.1.length:Int) then(((kW k k (c.1,c.2)):Option ((List (List Int)))).bind λh=>
  (ck (c.2+1)).bind λe=>
  kX k n (h,e)) else(some c.1)
def il(k:Nat):Nat->Int->Int->Option ((List (List Int)))
 |0,_,_=>none
 |m0+1,a0,a1=>
  if a1=0 then(some [[]]) else((((ck (a1 - 1)).bind λx3=>
  kZ k a0 a1 (il k m0) k (([]:(List (List Int))),x3)):Option ((List (List Int)))).bind λx1=>
  ((kX k k (x1,1)):Option ((List (List Int)))).bind λc=>
  some c)
theorem wz(k:Nat):
 ∀(n:Nat) (a0:Int) (a1:Int) (r:(List (List Int))),il k n a0 a1=some r->dz Tryz.prog 43 [I a0,I a1] ([]) (λz:Value×(Nat->Value)=>(bN [.eq z.1],.sl z.1 22 .val (gW z.2 0 r)::fW z.2 0 r)):=by
 intro n
 induction n with
 |zero=>intro a0 a1 r h;cases h
 |succ m0 ih=>
  intro a0 a1 r h;rw [il] at h;replace h:=bg h;refine dz.of 81 Tryz.func43 rfl Tryz.ntmps43 rfl λS w0=>?_;refine sr (cq (nt (ak (sr ?_))));refine mq ?_;refine jb (jm rfl) ?_;refine nt (ci h (λh=>?_) (λh=>?_))
  .refine sr (aX rfl rfl rfl (lI (t:=.val) [(.const (.slice none 0 0),.eq (.slice none 0 0))] [.slice none 0 0] rfl rfl l9 (.cons rfl (.val rfl) .nil) rfl rfl) ⟨rfl,trivial⟩ λv1=>?_);refine aq (nt (rx ?_));refine bK (SE.nil 3 Ti) ?_;refine bK (SE.pp (List.Perm.swap _ _ _)) ?_;cases h;exact qi (v1,λ_=>.slice none 0 0) [_] ⟨rfl,trivial⟩ rfl
  .refine sk (sr (cq (nt ?_)));refine aC (Z:=Value×(Nat->Value)) (α:=(List (List Int))) (λz2 x1=>[(5,.eq z2.1)]) (λz2 x1=>.sl z2.1 22 .val (gW z2.2 0 x1)::fW z2.2 0 x1) h (λK h=>?_) (λz2 x1 h=>?_)
   .refine sr (mq ?_);obtain⟨x3,We,h⟩:=aa h;refine jb (dL rfl We) ?_;refine aq (nt (ai ?_));refine f5 (SE.nil 22 .val) ?_;refine aD (λz5 y4=>[(0,I a0),(1,I a1),(5,.eq z5.1),(6,I y4.2)]) (λz5 y4=>.sl z5.1 22 .val (gW z5.2 0 y4.1)::fW z5.2 0 y4.1) (kZ k a0 a1 (il k m0)) k (.slice none 0 0,λ_=>.slice none 0 0) (([]:(List (List Int))),x3) (λ_=>rfl) h (ew ⟨rfl,rfl,rfl,rfl,trivial⟩ jW) (λn z5 y4 h=>?_);unfold kZ at h;refine ak (sr ?_);iterate 2 refine mq ?_
    refine jb (bo rfl) ?_;refine nt (ci h (λh=>?_) (λh=>?_))
    .refine sk (aC (Z:=Value×(Nat->Value)) (α:=(List (List Int))) (λz7 x6=>[(0,I a0),(1,I a1),(5,.eq z7.1),(6,I y4.2)]) (λz7 x6=>.sl z7.1 22 .val (gW z7.2 0 x6)::fW z7.2 0 x6) h (λK h=>?_) (λz7 x6 h=>?_))
     .refine ai (sr ?_);iterate 2 refine mq ?_
      obtain⟨x8,Wc,h⟩:=aa h;refine jb (dL rfl Wc) ?_;obtain⟨r9,Wg,h⟩:=aa h;refine aM (Δ:=[]) (F:=_) (λ_ _ _=>ah rfl _) rfl rfl (ax [.tmp 21,.tmp 23] rfl rfl RD rfl (ih y4.2 x8 r9 Wg)) ⟨rfl,rfl,trivial⟩ λz=>?_;refine aq (nt (sr ?_));refine cq (nt (ai ?_));refine aD (λl j=>[(0,I a0),(1,I a1),(5,.eq l.1),(6,I y4.2),(7,.eq z.1),(8,I j.2)]) (λl j=>.sl l.1 22 .val (gW l.2 0 j.1):: .sl z.1 22 .val (gW z.2 0 r9)::(fW l.2 0 j.1++fW z.2 j.2.toNat (r9.drop j.2.toNat))) (kY k y4 r9) k z5 (y4.1,0) (λ_=>rfl) h (ew (junk:=[]) ⟨rfl,rfl,rfl,rfl,rfl,rfl,trivial⟩ ?perm1) (λn l j h=>?_)
      case perm1=>
       show List.Perm ((D.sl z.1 22 .val (gW z.2 0 r9)::fW z.2 0 r9)++(D.sl z5.1 22 .val (gW z5.2 0 y4.1)::fW z5.2 0 y4.1)) ((D.sl z5.1 22 .val (gW z5.2 0 y4.1)::D.sl z.1 22 .val (gW z.2 0 r9)::(fW z5.2 0 y4.1++fW z.2 0 r9))++[]);rw [append_nil];exact(perm_append_comm (l₁:=D.sl z.1 22 .val (gW z.2 0 r9)::fW z.2 0 r9)).trans (List.Perm.cons _ (perm_middle (l₁:=fW z5.2 0 y4.1)))
      unfold kY at h;refine ak (sr ?_);iterate 2 refine mq ?_
      refine fr 1 ?_;refine ka (jD rfl rfl mM) ?_;refine fr 1 ?_;refine jb (bo rfl) ?_;refine nt (iq rfl (λhb=>?_) (λhb=>?_))
      .rw [fi] at hb;replace h:=eQ (sG hb) h;refine sk (ak (ai (ab ?_)));iterate 3 refine mq ?_
       obtain⟨Vu,mw,h⟩:=aa h;obtain⟨WO,V2⟩:=gR mw;refine fr 1 ?_;refine kb (bA (t:=.val) rfl mM dN (fJ mw)) ?_;refine ka (ek (t:=.val) (i:=Int.toNat j.2) (off:=0) rfl dN (λ_=>rfl) rfl (gR (fJ mw)).2 rfl) ?_;refine mq ?_;refine ja (bb (t:=Ti) [(.tmp 36,_)] [y4.2] rfl rfl dO (.cons rfl .int .nil) rfl rfl) ?_;rw [HM V2];refine eg (SE.pp (Δ':=.sl (z.2 j.2.toNat) 3 Ti Vu:: .sl l.1 22 .val (gW l.2 0 j.1):: .sl z.1 22 .val (gW z.2 0 r9)::(fW l.2 0 j.1++fW z.2 (j.2.toNat+1) (r9.drop (j.2.toNat+1)))) ?perm2) ?_
       case perm2=>
        show List.Perm (D.sl z.1 22 .val (gW z.2 0 r9)::D.sl l.1 22 .val (gW l.2 0 j.1)::(fW l.2 0 j.1++(D.sl (z.2 j.2.toNat) 3 Ti Vu::fW z.2 (j.2.toNat+1) (r9.drop (j.2.toNat+1))))) _;refine(List.Perm.swap _ _ _).trans ?_;exact(((perm_middle (l₁:=fW l.2 0 j.1)).cons _).cons _).trans (perm_middle (l₁:=[D.sl l.1 22 .val (gW l.2 0 j.1),D.sl z.1 22 .val (gW z.2 0 r9)]))
       obtain⟨WN,VS,h⟩:=aa h;refine dK rfl rfl rfl (bV rfl rfl dO (am VS)) ⟨rfl,rfl,trivial⟩ λQ=>?_;refine pz λo14=>?_;refine ja (bb (t:=.val) [(.tmp 38,.eq Q)] [Q] rfl rfl l9 (.cons o14 (.val o14) .nil) rfl rfl) ?_;obtain⟨WM,VQ,h⟩:=aa h;refine fr 1 ?_;refine dK rfl rfl rfl (bV rfl rfl l9 (show bD ((gW l.2 0 j.1).length+[Q].length) by rw [fi];exact am VQ)) ⟨rfl,rfl,trivial⟩ λVD=>?_;refine aq (aE (aO (tn (ab ?_))));refine mq ?_;obtain⟨VC,Vy,h⟩:=aa h;refine jb (bj rfl Vy) ?_;refine aq (nl ?_);have Wh:VC.toNat=j.2.toNat+1:=by have:=C6 Vy;omega
       refine mZ ((VD,oD l.2 j.1.length Q),(j.1++[Vu++[y4.2]],VC)) h (ew (junk:=[]) ⟨rfl,rfl,rfl,rfl,rfl,rfl,trivial⟩ ?perm3)
       case perm3=>
        simp only;rw [G2,HK,Wh,append_nil];show List.Perm (D.sl VD 22 .val (gW l.2 0 j.1++[Q])::D.sl Q 3 Ti (Vu++[y4.2])::D.sl z.1 22 .val (gW z.2 0 r9)::(fW l.2 0 j.1++fW z.2 (j.2.toNat+1) (r9.drop (j.2.toNat+1)))) _;rw [List.append_assoc];exact((List.Perm.swap _ _ _).trans ((perm_middle (l₁:=fW l.2 0 j.1)).symm.cons _)).cons _
      .rw [fi] at hb;replace h:=cQ (sH hb) h;refine fK (bM (bM (c6 (bn ?_))));exact mZ (l,j.1) h (ew (junk:=.sl z.1 22 .val (gW z.2 0 r9)::fW z.2 j.2.toNat (r9.drop j.2.toNat)) ⟨rfl,rfl,rfl,rfl,trivial⟩ ((perm_middle (l₁:=fW l.2 0 j.1)).symm.cons _))
     .refine ab (mq ?_);obtain⟨V0,VP,h⟩:=aa h;refine jb (bj rfl VP) ?_;refine aq (nl ?_);exact mZ (z7,(x6,V0)) h (ew ⟨rfl,rfl,rfl,rfl,trivial⟩ jW)
    .refine xa ?_;exact mZ (z5,y4.1) h (ew ⟨rfl,trivial⟩ jW)
   .refine aC (Z:=Nat->Value) (α:=(List (List Int))) (λX Vt=>[(5,.eq z2.1)]) (λX Vt=>.sl z2.1 22 .val (gW X 0 Vt)::fW X 0 Vt) h (λK h=>?_) (λX Vt h=>?_)
    .refine sr (cq (nt (ai ?_)));refine aD (λO u=>[(5,.eq z2.1),(9,I u.2)]) (λO u=>.sl z2.1 22 .val (gW O 0 u.1)::fW O 0 u.1) (kX k) k z2.2 (x1,1) (λ_=>rfl) h (ew ⟨rfl,rfl,trivial⟩ jW) (λn O u h=>?_);unfold kX at h;refine ak (sr ?_);iterate 2 refine mq ?_
     refine ka (jD rfl rfl mM) ?_;refine jb (bo rfl) ?_;refine nt (iq rfl (λhb=>?_) (λhb=>?_))
     .rw [fi] at hb;replace h:=eQ (sG hb) h;refine sk (aC (Z:=Nat->Value) (α:=(List (List Int))) (λU mc=>[(5,.eq z2.1),(9,I u.2)]) (λU mc=>.sl z2.1 22 .val (gW U 0 mc)::fW U 0 mc) h (λK h=>?_) (λU mc h=>?_))
      .refine ai (sr (mq ?_));refine aq (nt (ai ?_));refine aD (λe c=>[(5,.eq z2.1),(9,I u.2),(10,I c.2)]) (λe c=>.sl z2.1 22 .val (gW e 0 c.1)::fW e 0 c.1) (kW k) k O (u.1,u.2) (λ_=>rfl) h (ew ⟨rfl,rfl,rfl,trivial⟩ jW) (λn e c h=>?_);unfold kW at h;refine ak (aC (Z:=Unit) (α:=Bool) (λVB VA=>[(5,.eq z2.1),(9,I u.2),(10,I c.2),(61,.eq (.bool VA))]) (λVB VA=>.sl z2.1 22 .val (gW e 0 c.1)::fW e 0 c.1) h (λK h=>?_) (λVB VA h=>?_))
       .refine cN ?_;refine dm ?_;refine db (nm rfl) ?_;refine uv rfl rfl rfl (aV rfl) ⟨rfl,trivial⟩ (λhb=>?_) (λhb=>?_)
        .replace h:=eQ (sG hb) h;refine dn rfl rfl rfl rfl rfl (aV rfl) ⟨rfl,rfl,trivial⟩ ?_;refine dn rfl rfl rfl rfl rfl (aV rfl) ⟨rfl,rfl,trivial⟩ ?_;obtain⟨zz,M,h⟩:=aa h;refine ir 0 rfl rfl rfl rfl rfl rfl (bA (t:=.val) rfl mM dN (fJ M)) ⟨rfl,rfl,rfl,trivial⟩ ?_;refine ir 0 rfl rfl rfl rfl rfl rfl (ek (t:=.val) (i:=Int.toNat c.2) (off:=0) rfl dN (λ_=>rfl) rfl (gR (fJ M)).2 rfl) ⟨rfl,rfl,trivial⟩ ?_;refine dn rfl rfl rfl rfl rfl (aV rfl) ⟨rfl,rfl,trivial⟩ ?_;refine dn rfl rfl rfl rfl rfl (aV rfl) ⟨rfl,rfl,trivial⟩ ?_;obtain⟨gw,Vx,h⟩:=aa h;refine dn rfl rfl rfl rfl rfl (dL rfl Vx) ⟨rfl,rfl,rfl,trivial⟩ ?_;obtain⟨Vz,J,h⟩:=aa h;refine ir 0 rfl rfl rfl rfl rfl rfl (bA (t:=.val) rfl mM dN (fJ J)) ⟨rfl,rfl,rfl,trivial⟩ ?_;refine ir 0 rfl rfl rfl rfl rfl rfl (ek (t:=.val) (i:=Int.toNat gw) (off:=0) rfl dN (λ_=>rfl) rfl (gR (fJ J)).2 rfl) ⟨rfl,rfl,trivial⟩ ?_;refine df dS ?_;obtain⟨VE,VT,h⟩:=aa h;have VU:=Ap k zz Vz VE VT;obtain⟨rest,hp⟩:=DK (vs:=e) (gR M).2 (gR J).2 (by have:=C6 Vx;have:=(gR M).1;have:=(gR J).1;omega);refine eg (SE.pp ((hp.cons _).trans (perm_middle (l₁:=[D.sl (e c.2.toNat) 3 Ti zz,D.sl (e gw.toNat) 3 Ti Vz])).symm)) ?_
         refine aM (Δ:=[_,_]) (F:=_) (λ_ _ h=>by rw [pE rfl rfl rfl rfl h];simp) rfl rfl
          (iW (N:=[(.tmp 54,.eq (e c.2.toNat)),(.tmp 59,.eq (e gw.toNat))]) (iW (N:=[(.tmp 54,.rep Tl zz),(.tmp 59,.eq (e gw.toNat))]) (ax [.tmp 54,.tmp 59] rfl rfl Uh rfl VU) (λ_ _ _ hv hn=>⟨hn.1,lend hn.2.1 hv,trivial⟩) (λ_=>⟨rfl,nA⟩)) (λ_ _ _ hv hn=>⟨lend hn.1 hv,hn.2⟩) (λ_=>⟨rfl,λd hd=>by simp only [mem_cons,not_mem_nil,or_false] at hd;subst hd;rfl⟩)) ⟨rfl,rfl,trivial⟩ λ_=>?_
         refine pt (nl ?_);refine mZ ((),VE) h (ew (junk:=[]) ⟨rfl,rfl,rfl,rfl,trivial⟩ ?perm4)
         case perm4=>
          rw [append_nil];exact(perm_middle (l₁:=[D.sl (e c.2.toNat) 3 Ti zz,D.sl (e gw.toNat) 3 Ti Vz])).trans (hp.symm.cons _)
        .replace h:=cQ (sH hb) h;iterate 9 refine EU rfl rfl rfl rfl rfl rfl rfl ?_
         refine df dS ?_;refine gn ?_;refine pf (nl ?_);exact mZ ((),false) h (ew ⟨rfl,rfl,rfl,rfl,trivial⟩ jW)
       .refine cv h (λh=>?_) (λh=>?_)
        .refine sk ?_;obtain⟨s,E,h⟩:=aa h;obtain⟨VZ,VO,h⟩:=aa h;obtain rfl:s=VZ:=Option.some.inj (E.symm.trans VO);obtain⟨qt,y,h⟩:=aa h;obtain⟨Y,x,h⟩:=aa h;obtain⟨VY,VN,h⟩:=aa h;obtain rfl:Y=VY:=Option.some.inj (x.symm.trans VN);obtain⟨Wt,Ws,h⟩:=aa h;obtain⟨n33,Vw⟩:=gR y;obtain⟨n25,Vv⟩:=gR x;have hne:c.2.toNat≠s.toNat:=by have:=C6 E;omega
         obtain⟨rest,hp⟩:=DK (vs:=e) Vv Vw hne;have hp2:=(hp.cons (D.sl z2.1 22 .val (gW e 0 c.1))).trans (perm_middle (l₁:=[D.sl (e c.2.toNat) 3 Ti Y,D.sl (e s.toNat) 3 Ti qt])).symm;refine ak (f5 (SE.pp hp2) ?_);refine JH λo36=>?_;refine dy 1 rfl ?_;refine JH λo35=>?_;refine dy 1 rfl ?_;refine f5 (SE.pp hp2.symm) ?_;have hlv:(gW e 0 c.1).length=c.1.length:=fi;have hl25:=(List.getElem?_eq_some_iff.1 Vv).1;have hl33:=(List.getElem?_eq_some_iff.1 Vw).1
         have g38:aF ((gW e 0 c.1).set c.2.toNat (e s.toNat)) s=some (e s.toNat):=by
          have:=fJ (vs:=e) y;rw [aF,if_pos n33] at this⊢;rw [List.getElem?_set,if_neg hne];exact this
         refine ai (nH ?_);refine ba rfl rfl rfl (aV rfl) ⟨rfl,trivial⟩ ?_;refine ba rfl rfl rfl (aV rfl) ⟨rfl,trivial⟩ ?_;refine ba rfl rfl rfl (aV rfl) ⟨rfl,trivial⟩ ?_;refine ba rfl rfl rfl (aV rfl) ⟨rfl,trivial⟩ ?_;refine ba rfl rfl rfl (dL rfl E) ⟨rfl,rfl,trivial⟩ ?_;refine ba rfl rfl rfl (aV rfl) ⟨rfl,trivial⟩ ?_;refine ba rfl rfl rfl (aV rfl) ⟨rfl,trivial⟩ ?_;refine ba rfl rfl rfl (dL rfl E) ⟨rfl,rfl,trivial⟩ ?_;refine ff 0 rfl rfl rfl rfl (bA (t:=.val) rfl mM dN (fJ y)) ⟨rfl,rfl,trivial⟩ ?_;refine ff 0 rfl rfl rfl rfl (ek (t:=.val) (i:=Int.toNat s) (off:=0) rfl dN (λ_=>rfl) rfl (gR (fJ y)).2 rfl) ⟨rfl,trivial⟩ ?_;refine ba rfl rfl rfl (aV rfl) ⟨rfl,trivial⟩ ?_;refine ba rfl rfl rfl (aV rfl) ⟨rfl,trivial⟩ ?_;refine ff 0 rfl rfl rfl rfl (bA (t:=.val) rfl mM dN (fJ x)) ⟨rfl,rfl,trivial⟩ ?_;refine ff 0 rfl rfl rfl rfl (ek (t:=.val) (i:=Int.toNat c.2) (off:=0) rfl dN (λ_=>rfl) rfl (gR (fJ x)).2 rfl) ⟨rfl,trivial⟩ ?_;refine ff 0 rfl rfl rfl rfl (bA (t:=.val) rfl mM dN (fJ x)) ⟨rfl,rfl,trivial⟩ ?_;refine ry 15 [true,true,false,false,false,true,true,true,true,true,true,true,true,true,true] [79] [] [] rfl (by kernel_rfl) (by kernel_rfl) (by kernel_rfl) dS (λvs hv hB=>?_);obtain⟨w0,WL,rfl,Wb⟩:=ap hv;obtain⟨w1,WJ,rfl,Wa⟩:=ap Wb;obtain⟨w2,WI,rfl,V9⟩:=ap Wa;obtain⟨w3,WH,rfl,V8⟩:=ap V9;obtain⟨w4,WG,rfl,V7⟩:=ap V8;obtain⟨w5,WE,rfl,V6⟩:=ap V7;obtain⟨w6,WC,rfl,V5⟩:=ap V6;obtain⟨w7,WB,rfl,V4⟩:=ap V5;obtain⟨w8,WA,rfl,V3⟩:=ap V4;obtain⟨w9,Wq,rfl,VK⟩:=ap V3;obtain⟨Wz,Wp,rfl,VJ⟩:=ap VK;obtain⟨Wy,Wn,rfl,VI⟩:=ap VJ;obtain⟨Wx,Wm,rfl,VH⟩:=ap VI;obtain⟨Wv,Wj,rfl,VG⟩:=ap VH;obtain⟨Wu,Wi,rfl,VF⟩:=ap VG;obtain rfl:=nZ VF;refine⟨List.range (D.sl z2.1 22 .val (gW e 0 c.1)::fW e 0 c.1).length,.sl z2.1 22 .val (gW e 0 c.1)::fW e 0 c.1,?pick,List.nodup_range,?_⟩
         case pick=>
          unfold oI;rw [NM.keep (by simp only [reverse_cons,List.reverse_nil,nil_append,cons_append];repeat (first |exact trivial |refine⟨⟨λk=>by simp [sj],rfl⟩,?_⟩))];show eR ((D.sl z2.1 22 .val (gW e 0 c.1)::fW e 0 c.1)++[]) _=some _;rw [append_nil];exact Fe
         refine oq rfl rfl (fj (t:=.val) (i:=Int.toNat c.2) rfl dN rfl (by rw [hlv];exact hl25) rfl (.val o35) o35) ⟨rfl,rfl,trivial⟩ (by kernel_rfl) ?_;refine tK rfl rfl rfl rfl (bA (t:=.val) rfl mM dN g38) ⟨rfl,rfl,trivial⟩ (by kernel_rfl) ?_;refine oq rfl rfl (fj (t:=.val) (i:=Int.toNat s) rfl dN rfl (by rw [length_set,hlv];exact hl33) rfl (.val o36) o36) ⟨rfl,rfl,trivial⟩ (by kernel_rfl) ?_;refine tL ?_;refine bK (ew (Γ':=[(5,.eq z2.1),(9,I u.2),(10,I c.2)]) (Δ':=.sl z2.1 22 .val (gW (zA e c.2.toNat s.toNat) 0 (List.set (List.set c.1 (Int.toNat c.2) qt) (Int.toNat s) Y))::fW (zA e c.2.toNat s.toNat) 0 (List.set (List.set c.1 (Int.toNat c.2) qt) (Int.toNat s) Y)) (junk:=[]) ⟨rfl,rfl,rfl,trivial⟩ ?perm5) ?_
         case perm5=>
          rw [append_nil,G1 Vv Vw hne];exact(HJ Vv Vw hne).symm.cons _
         refine aO (tn (ab (mq ?_)));obtain⟨VX,VM,h⟩:=aa h;refine jb (dL rfl VM) ?_;refine aq (nl ?_);exact mZ (zA e c.2.toNat s.toNat,(List.set (List.set c.1 (Int.toNat c.2) qt) (Int.toNat s) Y,VX)) h (ew ⟨rfl,rfl,rfl,trivial⟩ jW)
        .refine fK (bM (bM (c6 (bn ?_))));exact mZ (e,c.1) h (ew ⟨rfl,rfl,trivial⟩ jW)
      .refine ab (mq ?_);obtain⟨VV,VL,h⟩:=aa h;refine jb (bj rfl VL) ?_;refine aq (nl ?_);exact mZ (U,(mc,VV)) h (ew ⟨rfl,rfl,trivial⟩ jW)
     .rw [fi] at hb;replace h:=cQ (sH hb) h;refine xa ?_;exact mZ (O,u.1) h (ew ⟨rfl,trivial⟩ jW)
    .refine sr (mq ?_);refine aq (nt (aA ?_));cases h;exact qi (z2.1,X) [_] ⟨rfl,trivial⟩ rfl
theorem yn(k:Nat)(n:Nat)(a0:Int)(a1:Int)(r:(List (List Int)))(h:il k n a0 a1=some r):dz Tryz.prog 43 [I a0,I a1] [] (λz:Value=>(bN [.eq z],[.sl z 22 Tl r])):=(wz k n a0 a1 r h).frzAll
def fB(k:Nat)(a0:Int):Nat->((List (List Int))×Int)->Option (List (List Int))
 |0,_=>none
 |n+1,y3=>
  if y3.2≤a0 then((il k k a0 y3.2).bind λr5=>
  (cL (bD (length y3.1+length r5))).bind λ_=>
  (ck (y3.2+1)).bind λx9=>
  fB k a0 n (y3.1++r5,x9)) else(some y3.1)
def nv(k:Nat)(a0:Int):Option (List (List Int)):=
 ((fB k a0 k (([]:(List (List Int))),0)):Option ((List (List Int)))).bind λx1=>
 some x1
theorem ym(k:Nat)(a0:Int)(r:(List (List Int)))(h:nv k a0=some r):
 dz Tryz.prog 11 [I a0] [] (λ_:Unit=>(bN [.rep (.slice Tl) r],[])):=by
 unfold nv at h
 replace h:=bg h
 refine dz.of 16 Tryz.func11 rfl Tryz.ntmps11 rfl λS w0=>?_
 refine sr ?_
 refine cq ?_
 refine nt ?_
 refine sr ?_
 refine cq ?_
 refine nt ?_
 refine aC (Z:=Value) (α:=(List (List Int))) (λz2 x1=>[(3,.eq z2)]) (λz2 x1=>[.sl z2 22 Tl x1]) h (λK h=>?_) (λz2 x1 h=>?_)
 .
  refine sr (cq (nt (ai ?_)));refine f5 (SE.nil 22 Tl) ?_;refine aD (λz4 y3=>[(0,I a0),(3,.eq z4),(4,I y3.2)]) (λz4 y3=>[.sl z4 22 Tl y3.1]) (fB k a0) k (.slice none 0 0) (([]:(List (List Int))),0) (λ_=>rfl) h (SE.fin [0] ⟨rfl,rfl,rfl,trivial⟩ rfl) (λn z4 y3 h=>?_);unfold fB at h;refine ak (sr ?_);iterate 2 refine mq ?_
  refine jb (zN rfl) ?_;refine nt (ci h (λh=>?_) (λh=>?_))
  .refine sk (ak (ai (ab ?_)));iterate 3 refine mq ?_
   obtain⟨r5,j,h⟩:=aa h;refine aX rfl rfl rfl (ax [.tmp 11,.tmp 12] rfl rfl RD rfl (yn k k a0 y3.2 r5 j)) ⟨rfl,rfl,trivial⟩ λv6=>?_;refine eg (ic [13] ⟨rfl,trivial⟩) ?_;obtain⟨u7,e,h⟩:=aa h;refine dK rfl rfl rfl (bV rfl rfl l9 (am e)) ⟨rfl,rfl,trivial⟩ λv8=>?_;refine aq (aE (aO (tn (ab ?_))));refine mq ?_;obtain⟨x9,c,h⟩:=aa h;refine jb (bj rfl c) ?_;refine aq (nl ?_);exact jz (v8,(y3.1++r5,x9)) h [0]
  .refine xa ?_;exact jz (z4,y3.1) h [0]
 .
  refine sr (mq ?_);refine aq (nt (aA ?_));refine bK (ic [2,3,15] ⟨rfl,rfl,rfl,trivial⟩) ?_;cases h;exact ra
def gX(k:Nat)(a0:(List Int))(a1:Int):Nat->Int->Option (Except Bool Unit)
 |0,_=>none
 |n+1,y3=>
  if y3 < (a0.length:Int) then((aF a0 y3).bind λx5=>
  if x5=a1 then(some (.error true)) else((ck (y3+1)).bind λx6=>
  gX k a0 a1 n x6)) else(some (.ok ()))
def pI(k:Nat)(a0:(List Int))(a1:Int):Option Bool:=
 bE (α:=Unit) (gX k a0 a1 k 0) (some) λ_=>
 some false
theorem BN(k:Nat)(a0:(List Int))(a1:Int)(r:Bool)(h:pI k a0 a1=some r):
 dz Tryz.prog 44 [.rep Tl a0,I a1] [] (λ_:Unit=>(bN [.eq (.bool r)],[])):=by
 unfold pI at h
 replace h:=bg h
 refine dz.of 18 Tryz.func44 rfl Tryz.ntmps44 rfl λS w0=>?_
 refine sr ?_
 refine cq ?_
 refine nt ?_
 refine dk (Z:=Unit) (α:=Unit) (λz2 x1=>[]) (λz2 x1=>[]) (λe=>e=r) h (λe h=>Option.some.inj h) (λK hR h=>?_) (λz2 x1 h=>?_)
 .
  refine sr (cq (nt (ai ?_)));refine aD (λz4 y3=>[(0,.rep Tl a0),(1,I a1),(5,I y3)]) (λz4 y3=>[]) (gX k a0 a1) k () 0 (λ_=>rfl) h (SE.fin [] ⟨rfl,rfl,rfl,trivial⟩ rfl) (λn z4 y3 h=>?_);unfold gX at h;refine ak (sr ?_);iterate 2 refine mq ?_
  refine ol ig ?_;refine jb (bo rfl) ?_;refine nt (ci h (λh=>?_) (λh=>?_))
  .refine sk (ak (ai (sr ?_)));iterate 2 refine mq ?_
   obtain⟨x5,j,h⟩:=aa h;refine jb (aK (t:=Ti) rfl ig cF j) ?_;refine ja (ao (t:=Ti) rfl cF rfl) ?_;refine mq ?_;refine jb (jm rfl) ?_;refine nt (ci h (λh=>?_) (λh=>?_))
   .refine sr (cq (nt (aA (br (bB (bv ?_))))));obtain rfl:=hR _ h;exact ra
   .refine bi (aO (tn (ab (mq ?_))));obtain⟨x6,c,h⟩:=aa h;refine jb (bj rfl c) ?_;refine aq (nl ?_);exact jz ((),x6) h []
  .refine xa ?_;exact jz ((),()) h []
 .
  refine sr (cq (nt (aA ?_)));cases h;exact ra
def dV(k:Nat)(a0:ae)(a1:Int)(a2:(List Int))(y6:(List (List (List Int)))×Int)(e:(List (List Int))×Int):Nat->((List Int)×Int)->Option (List Int)
 |0,_=>none
 |n+1,c=>
  (aF a0.2.2.2.2.1 y6.2).bind λF=>
  (aF F e.2).bind λE=>
  if c.2 < (E.length:Int) then(((((if y6.2 < a1 then(some true) else((aF a0.2.2.2.2.1 y6.2).bind λx=>
  (aF x e.2).bind λu=>
  (aF u c.2).bind λs=>
  (pI k a2 s).bind λI=>
  some (!I))):Option (Bool)).bind λy=>
  if y=true then((aF a0.2.2.2.2.1 y6.2).bind λr=>
  (aF r e.2).bind λl=>
  (aF l c.2).bind λh=>
  (cL (bD (length c.1+length [h]))).bind λ_=>
  some (c.1++[h])) else(some c.1)):Option ((List Int))).bind λD=>
  (ck (c.2+1)).bind λj=>
  dV k a0 a1 a2 y6 e n (D,j)) else(some c.1)
def dW(k:Nat)(a0:ae)(a1:Int)(a2:(List Int))(y6:(List (List (List Int)))×Int):Nat->((List (List Int))×Int)->Option (List (List Int))
 |0,_=>none
 |n+1,c=>
  (aF a0.2.2.2.2.1 y6.2).bind λl=>
  if c.2 < (l.length:Int) then(((((dV k a0 a1 a2 y6 c k (([]:(List Int)),0)):Option ((List Int))).bind λe=>
  (cL (bD (length c.1+length [e]))).bind λ_=>
  some (c.1++[e])):Option ((List (List Int)))).bind λj=>
  (ck (c.2+1)).bind λh=>
  dW k a0 a1 a2 y6 n (j,h)) else(some c.1)
def eH(k:Nat)(a0:ae)(a1:Int)(a2:(List Int)):Nat->((List (List (List Int)))×Int)->Option (List (List (List Int)))
 |0,_=>none
 |n+1,y6=>
  if y6.2 < (a0.2.2.2.2.1.length:Int) then(((((dW k a0 a1 a2 y6 k (([]:(List (List Int))),0)):Option ((List (List Int)))).bind λc=>
  (cL (bD (length y6.1+length [c]))).bind λ_=>
  some (y6.1++[c])):Option ((List (List (List Int))))).bind λx8=>
  (ck (y6.2+1)).bind λe=>
  eH k a0 a1 a2 n (x8,e)) else(some y6.1)
def lF(k:Nat)(a0:ae)(a1:Int)(a2:(List Int)):Option ae:=
 ((eH k a0 a1 a2 k (([]:(List (List (List Int)))),0)):Option ((List (List (List Int))))).bind λx4=>
 some (a0.1,a0.2.1,a0.2.2.1,a0.2.2.2.1,x4,a0.2.2.2.2.2)
theorem wi(k:Nat)(a0:ae)(a1:Int)(a2:(List Int))(r:ae)(h:lF k a0 a1 a2=some r):
 dz Tryz.prog 12 [.rep an a0,I a1,.rep Tl a2] [] (λ_:Unit=>(bN [.rep an r],[])):=by
 unfold lF at h
 replace h:=bg h
 refine dz.of 89 Tryz.func12 rfl Tryz.ntmps12 rfl λS w0=>?_
 refine sr ?_
 refine bx λb1=>?_
 refine aX rfl rfl rfl (be rfl uw yN) trivial λb2=>?_
 refine nt ?_
 refine sr ?_
 refine fr 1 ?_
 refine lo fE ?_
 refine aX rfl rfl rfl (be rfl uw yN) trivial λb3=>?_
 refine aN rfl rfl (aI rfl fE rfl rfl rfl) ⟨rfl,rfl,trivial⟩ ?_
 refine nt ?_
 refine sr ?_
 refine fl dh ?_
 refine aN rfl rfl (aI rfl ix rfl rfl rfl) ⟨rfl,rfl,trivial⟩ ?_
 refine nt ?_
 refine aC (Z:=Value) (α:=(List (List (List Int)))) (λz5 x4=>[(6,Pt b2),(7,Pt b3)]) (λz5 x4=>[.obj b2 28 (.agg (.pair (I 0) (.pair (I 0) (.pair (I 0) (.pair (I 0) (.pair (.eq (.slice none 0 0)) (.eq (.slice none 0 0)))))))),.obj b3 28 (.agg (.pair (I a0.1) (.pair (I a0.2.1) (.pair (I a0.2.2.1) (.pair (I a0.2.2.2.1) (.pair (.eq z5) (Rs aR a0.2.2.2.2.2))))))),.sl z5 29 (.slice Tl) x4]) h (λK h=>?_) (λz5 x4 h=>?_)
 .
  refine sr (cq (nt (ai ?_)));refine f5 (SE.nil 29 (.slice Tl)) ?_;refine dy 1 rfl ?_;refine f5 (gq (a:=.agg (.pair (.rep Ti a0.1) (.pair (.rep Ti a0.2.1) (.pair (.rep Ti a0.2.2.1) (.pair (.rep Ti a0.2.2.2.1) (.pair (.eq (.slice none 0 0)) (Rs aR a0.2.2.2.2.2))))))) (a':=.agg (.pair (I a0.1) (.pair (I a0.2.1) (.pair (I a0.2.2.1) (.pair (I a0.2.2.2.1) (.pair (.eq (.slice none 0 0)) (Rs aR a0.2.2.2.2.2))))))) (AE.agg (AE.pair AE.int (AE.pair AE.int (AE.pair AE.int (AE.pair AE.int AE.rfl)))))) ?_;refine aD (λz7 y6=>[(1,I a1),(2,.rep Tl a2),(3,Pt b1),(6,Pt b2),(7,Pt b3),(8,I y6.2)]) (λz7 y6=>[.obj b1 28 (.rep an a0),.obj b2 28 (.agg (.pair (I 0) (.pair (I 0) (.pair (I 0) (.pair (I 0) (.pair (.eq (.slice none 0 0)) (.eq (.slice none 0 0)))))))),.obj b3 28 (.agg (.pair (I a0.1) (.pair (I a0.2.1) (.pair (I a0.2.2.1) (.pair (I a0.2.2.2.1) (.pair (.eq z7) (Rs aR a0.2.2.2.2.2))))))),.sl z7 29 (.slice Tl) y6.1]) (eH k a0 a1 a2) k (.slice none 0 0) (([]:(List (List (List Int)))),0) (λ_=>rfl) h (SE.fin [2,3,0,1] ⟨rfl,rfl,rfl,rfl,rfl,rfl,trivial⟩ rfl) (λn z7 y6 h=>?_);unfold eH at h;refine ak (sr (mq ?_));refine fl dh ?_;refine lo ix ?_;refine ol vG ?_;refine jb (bo rfl) ?_;refine nt (ci h (λh=>?_) (λh=>?_))
  .refine sk (aC (Z:=Value) (α:=(List (List (List Int)))) (λz9 x8=>[(1,I a1),(2,.rep Tl a2),(3,Pt b1),(6,Pt b2),(7,Pt b3),(8,I y6.2)]) (λz9 x8=>[.obj b1 28 (.rep an a0),.obj b2 28 (.agg (.pair (I 0) (.pair (I 0) (.pair (I 0) (.pair (I 0) (.pair (.eq (.slice none 0 0)) (.eq (.slice none 0 0)))))))),.obj b3 28 (.agg (.pair (I a0.1) (.pair (I a0.2.1) (.pair (I a0.2.2.1) (.pair (I a0.2.2.2.1) (.pair (.eq z9) (Rs aR a0.2.2.2.2.2))))))),.sl z9 29 (.slice Tl) x8]) h (λK h=>?_) (λz9 x8 h=>?_))
   .refine ai (sr (cq (nt ?_)));refine aC (Z:=Value) (α:=(List (List Int))) (λF D=>[(1,I a1),(2,.rep Tl a2),(3,Pt b1),(6,Pt b2),(7,Pt b3),(8,I y6.2),(9,.eq F)]) (λF D=>[.obj b1 28 (.rep an a0),.obj b2 28 (.agg (.pair (I 0) (.pair (I 0) (.pair (I 0) (.pair (I 0) (.pair (.eq (.slice none 0 0)) (.eq (.slice none 0 0)))))))),.obj b3 28 (.agg (.pair (I a0.1) (.pair (I a0.2.1) (.pair (I a0.2.2.1) (.pair (I a0.2.2.2.1) (.pair (.eq z7) (Rs aR a0.2.2.2.2.2))))))),.sl z7 29 (.slice Tl) y6.1,.sl F 22 Tl D]) h (λK h=>?_) (λF D h=>?_)
    .refine sr (cq (nt (ai ?_)));refine f5 (SE.nil 22 Tl) ?_;refine aD (λe c=>[(1,I a1),(2,.rep Tl a2),(3,Pt b1),(6,Pt b2),(7,Pt b3),(8,I y6.2),(9,.eq e),(10,I c.2)]) (λe c=>[.obj b1 28 (.rep an a0),.obj b2 28 (.agg (.pair (I 0) (.pair (I 0) (.pair (I 0) (.pair (I 0) (.pair (.eq (.slice none 0 0)) (.eq (.slice none 0 0)))))))),.obj b3 28 (.agg (.pair (I a0.1) (.pair (I a0.2.1) (.pair (I a0.2.2.1) (.pair (I a0.2.2.2.1) (.pair (.eq z7) (Rs aR a0.2.2.2.2.2))))))),.sl z7 29 (.slice Tl) y6.1,.sl e 22 Tl c.1]) (dW k a0 a1 a2 y6) k (.slice none 0 0) (([]:(List (List Int))),0) (λ_=>rfl) h (SE.fin [1,2,3,4,0] ⟨rfl,rfl,rfl,rfl,rfl,rfl,rfl,rfl,trivial⟩ rfl) (λn e c h=>?_);unfold dW at h;refine ak (sr (mq ?_));refine fl dh ?_;refine lo ix ?_;refine mq ?_;obtain⟨VQ,Vy,h⟩:=aa h;refine jb (aK (t:=(.slice Tl)) rfl vG qm Vy) ?_;refine ja (ao (t:=(.slice Tl)) rfl qm rfl) ?_;refine ol mM ?_;refine jb (bo rfl) ?_;refine nt (ci h (λh=>?_) (λh=>?_))
     .refine sk (aC (Z:=Value) (α:=(List (List Int))) (λx M=>[(1,I a1),(2,.rep Tl a2),(3,Pt b1),(6,Pt b2),(7,Pt b3),(8,I y6.2),(9,.eq x),(10,I c.2)]) (λx M=>[.obj b1 28 (.rep an a0),.obj b2 28 (.agg (.pair (I 0) (.pair (I 0) (.pair (I 0) (.pair (I 0) (.pair (.eq (.slice none 0 0)) (.eq (.slice none 0 0)))))))),.obj b3 28 (.agg (.pair (I a0.1) (.pair (I a0.2.1) (.pair (I a0.2.2.1) (.pair (I a0.2.2.2.1) (.pair (.eq z7) (Rs aR a0.2.2.2.2.2))))))),.sl z7 29 (.slice Tl) y6.1,.sl x 22 Tl M]) h (λK h=>?_) (λx M h=>?_))
      .refine ai (sr (cq (nt ?_)));refine aC (Z:=Value) (α:=(List Int)) (λE y=>[(1,I a1),(2,.rep Tl a2),(3,Pt b1),(6,Pt b2),(7,Pt b3),(8,I y6.2),(9,.eq e),(10,I c.2),(11,.eq E)]) (λE y=>[.obj b1 28 (.rep an a0),.obj b2 28 (.agg (.pair (I 0) (.pair (I 0) (.pair (I 0) (.pair (I 0) (.pair (.eq (.slice none 0 0)) (.eq (.slice none 0 0)))))))),.obj b3 28 (.agg (.pair (I a0.1) (.pair (I a0.2.1) (.pair (I a0.2.2.1) (.pair (I a0.2.2.2.1) (.pair (.eq z7) (Rs aR a0.2.2.2.2.2))))))),.sl z7 29 (.slice Tl) y6.1,.sl e 22 Tl c.1,.sl E 3 Ti y]) h (λK h=>?_) (λE y h=>?_)
       .refine sr (cq (nt (ai ?_)));refine f5 (SE.nil 3 Ti) ?_;refine aD (λl j=>[(1,I a1),(2,.rep Tl a2),(3,Pt b1),(6,Pt b2),(7,Pt b3),(8,I y6.2),(9,.eq e),(10,I c.2),(11,.eq l),(12,I j.2)]) (λl j=>[.obj b1 28 (.rep an a0),.obj b2 28 (.agg (.pair (I 0) (.pair (I 0) (.pair (I 0) (.pair (I 0) (.pair (.eq (.slice none 0 0)) (.eq (.slice none 0 0)))))))),.obj b3 28 (.agg (.pair (I a0.1) (.pair (I a0.2.1) (.pair (I a0.2.2.1) (.pair (I a0.2.2.2.1) (.pair (.eq z7) (Rs aR a0.2.2.2.2.2))))))),.sl z7 29 (.slice Tl) y6.1,.sl e 22 Tl c.1,.sl l 3 Ti j.1]) (dV k a0 a1 a2 y6 c) k (.slice none 0 0) (([]:(List Int)),0) (λ_=>rfl) h (SE.fin [1,2,3,4,5,0] ⟨rfl,rfl,rfl,rfl,rfl,rfl,rfl,rfl,rfl,rfl,trivial⟩ rfl) (λn l j h=>?_);unfold dV at h;refine ak (sr (mq ?_));refine fl dh ?_;refine lo ix ?_;refine mq ?_;obtain⟨VP,Vx,h⟩:=aa h;refine jb (aK (t:=(.slice Tl)) rfl vG qm Vx) ?_;refine ja (ao (t:=(.slice Tl)) rfl qm rfl) ?_;refine mq ?_;obtain⟨VO,Vw,h⟩:=aa h;refine jb (aK (t:=Tl) rfl mM dN Vw) ?_;refine ja (ao (t:=Tl) rfl dN rfl) ?_;refine ol ig ?_;refine jb (bo rfl) ?_;refine nt (ci h (λh=>?_) (λh=>?_))
        .refine sk (aC (Z:=Value) (α:=(List Int)) (λu J=>[(1,I a1),(2,.rep Tl a2),(3,Pt b1),(6,Pt b2),(7,Pt b3),(8,I y6.2),(9,.eq e),(10,I c.2),(11,.eq u),(12,I j.2)]) (λu J=>[.obj b1 28 (.rep an a0),.obj b2 28 (.agg (.pair (I 0) (.pair (I 0) (.pair (I 0) (.pair (I 0) (.pair (.eq (.slice none 0 0)) (.eq (.slice none 0 0)))))))),.obj b3 28 (.agg (.pair (I a0.1) (.pair (I a0.2.1) (.pair (I a0.2.2.1) (.pair (I a0.2.2.2.1) (.pair (.eq z7) (Rs aR a0.2.2.2.2.2))))))),.sl z7 29 (.slice Tl) y6.1,.sl e 22 Tl c.1,.sl u 3 Ti J]) h (λK h=>?_) (λu J h=>?_))
         .refine ai (aC (Z:=Unit) (α:=Bool) (λQ O=>[(1,I a1),(2,.rep Tl a2),(3,Pt b1),(6,Pt b2),(7,Pt b3),(8,I y6.2),(9,.eq e),(10,I c.2),(11,.eq l),(12,I j.2),(63,.eq (.bool O))]) (λQ O=>[.obj b1 28 (.rep an a0),.obj b2 28 (.agg (.pair (I 0) (.pair (I 0) (.pair (I 0) (.pair (I 0) (.pair (.eq (.slice none 0 0)) (.eq (.slice none 0 0)))))))),.obj b3 28 (.agg (.pair (I a0.1) (.pair (I a0.2.1) (.pair (I a0.2.2.1) (.pair (I a0.2.2.2.1) (.pair (.eq z7) (Rs aR a0.2.2.2.2.2))))))),.sl z7 29 (.slice Tl) y6.1,.sl e 22 Tl c.1,.sl l 3 Ti j.1]) h (λK h=>?_) (λQ O h=>?_))
          .refine ab ?_;iterate 2 refine mq ?_
           refine jb (bo rfl) ?_;refine mq ?_;refine cj (s:=48) rfl (λhb=>?_) (λhb=>?_)
           .replace h:=eQ (sG hb) h;iterate 14 refine gn ?_
            refine pt (nl ?_);exact jz ((),true) h [0,1,2,3,4,5]
           .replace h:=cQ (sH hb) h;refine gm ?_;refine ga (aG rfl dh) ?_;refine mY rfl rfl rfl rfl rfl rfl (ay rfl ix o8 rfl) ⟨rfl,trivial⟩ ?_;refine gm ?_;obtain⟨VN,Vv,h⟩:=aa h;refine gb (aK (t:=(.slice Tl)) rfl vG qm Vv) ?_;refine ga (ao (t:=(.slice Tl)) rfl qm rfl) ?_;refine gm ?_;obtain⟨VM,Vu,h⟩:=aa h;refine gb (aK (t:=Tl) rfl mM dN Vu) ?_;refine ga (ao (t:=Tl) rfl dN rfl) ?_;refine gm ?_;obtain⟨VG,Vt,h⟩:=aa h;refine gb (aK (t:=Ti) rfl ig cF Vt) ?_;refine ga (ao (t:=Ti) rfl cF rfl) ?_;obtain⟨X,VC,h⟩:=aa h;refine gb (ax [.tmp 49,.tmp 60] rfl rfl Uw rfl (BN k a2 VG X VC)) ?_;refine ga (gZ rfl) ?_;refine pf (nl ?_);exact jz ((), !X) h [0,1,2,3,4,5]
          .refine cv h (λh=>?_) (λh=>?_)
           .refine ab (mq ?_);refine fl dh ?_;refine lo ix ?_;refine mq ?_;obtain⟨VL,zz,h⟩:=aa h;refine jb (aK (t:=(.slice Tl)) rfl vG qm zz) ?_;refine ja (ao (t:=(.slice Tl)) rfl qm rfl) ?_;refine mq ?_;obtain⟨VK,qt,h⟩:=aa h;refine jb (aK (t:=Tl) rfl mM dN qt) ?_;refine ja (ao (t:=Tl) rfl dN rfl) ?_;refine mq ?_;obtain⟨U,mw,h⟩:=aa h;refine jb (aK (t:=Ti) rfl ig cF mw) ?_;refine ja (ao (t:=Ti) rfl cF rfl) ?_;refine ja (bb (t:=Ti) [(.tmp 75,_)] [U] rfl rfl dO (.cons rfl .int .nil) rfl rfl) ?_;obtain⟨VU,VB,h⟩:=aa h;refine fr 5 ?_;refine dK rfl rfl rfl (bV rfl rfl dO (am VB)) ⟨rfl,rfl,trivial⟩ λVJ=>?_;refine aq (aE (bn ?_));exact jz (VJ,j.1++[U]) h [1,2,3,4,5,0]
           .refine bi (bn ?_);exact jz (l,j.1) h [0,1,2,3,4,5]
         .refine ab (mq ?_);obtain⟨VF,mc,h⟩:=aa h;refine jb (bj rfl mc) ?_;refine aq (nl ?_);exact jz (u,(J,VF)) h [0,1,2,3,4,5]
        .refine xa ?_;exact jz (l,j.1) h [0,1,2,3,4,5]
       .refine ab ?_;iterate 2 refine mq ?_
        refine fr 5 ?_;refine eg (ic [11,79] ⟨rfl,rfl,trivial⟩) ?_;refine ja (bb (t:=Tl) [(.tmp 79,_)] [y] rfl rfl l9 (.cons rfl .rep .nil) rfl rfl) ?_;obtain⟨VT,VA,h⟩:=aa h;refine fr 4 ?_;refine dK rfl rfl rfl (bV rfl rfl l9 (am VA)) ⟨rfl,rfl,trivial⟩ λVI=>?_;refine aq (aE (bn ?_));exact jz (VI,c.1++[y]) h [1,2,3,4,0]
      .refine ab (mq ?_);obtain⟨VE,gw,h⟩:=aa h;refine jb (bj rfl gw) ?_;refine aq (nl ?_);exact jz (x,(M,VE)) h [0,1,2,3,4]
     .refine xa ?_;exact jz (e,c.1) h [0,1,2,3,4]
    .refine ab (fl dh ?_);refine fr 2 ?_;refine lo ix ?_;refine mq ?_;refine fr 4 ?_;refine eg (ic [9,84] ⟨rfl,rfl,trivial⟩) ?_;refine ja (bb (t:=(.slice Tl)) [(.tmp 84,_)] [D] rfl rfl xQ (.cons rfl .rep .nil) rfl rfl) ?_;obtain⟨VS,Vz,h⟩:=aa h;refine fr 3 ?_;refine dK rfl rfl rfl (bV rfl rfl xQ (am Vz)) ⟨rfl,rfl,trivial⟩ λVH=>?_;refine fl dh ?_;refine pz λo42=>?_;refine fr 1 ?_;refine aN rfl rfl (aI rfl ix o42 rfl rfl) ⟨rfl,rfl,trivial⟩ ?_;refine aE (bn ?_);exact jz (VH,y6.1++[D]) h [2,3,0,1]
   .refine ab (mq ?_);obtain⟨VD,Y,h⟩:=aa h;refine jb (bj rfl Y) ?_;refine aq (nl ?_);exact jz (z9,(x8,VD)) h [0,1,2,3]
  .refine xa ?_;exact jz (z7,y6.1) h [1,2,3]
 .
  refine sr (fr 1 ?_);refine fr 2 ?_;refine eg (lW (off:=4) [] trivial rfl rfl) ?_;refine lo fE ?_;refine fr 1 ?_;refine aN rfl rfl (aI rfl fE trivial rfl rfl) ⟨rfl,rfl,trivial⟩ ?_;refine nt (aA (bK (gq (a:=.agg (.pair (I a0.1) (.pair (I a0.2.1) (.pair (I a0.2.2.1) (.pair (I a0.2.2.2.1) (.pair (.rep (.slice (.slice Tl)) x4) (Rs aR a0.2.2.2.2.2))))))) (a':=.rep an (a0.1,a0.2.1,a0.2.2.1,a0.2.2.2.1,x4,a0.2.2.2.2.2)) (iY (.agg (.pair .int (.pair .int (.pair .int (.pair .int (.pair .rep .rep)))))))) ?_));cases h;exact aP () [.rep an (a0.1,a0.2.1,a0.2.2.1,a0.2.2.2.1,x4,a0.2.2.2.2.2)] 0 ⟨⟨_,_,_,_,_,rfl,(.head _),fE,(s7),rfl⟩,trivial⟩ rfl
def dH(k:Nat)(a0:(List Int))(a1:(List Int)):Nat->Int->Option (Except Bool Unit)
 |0,_=>none
 |n+1,y3=>
  if y3 < (a0.length:Int) then((aF a0 y3).bind λx5=>
  (aF a1 y3).bind λx6=>
  if¬(x5=x6) then(some (.error false)) else((ck (y3+1)).bind λx7=>
  dH k a0 a1 n x7)) else(some (.ok ()))
def fC(k:Nat)(a0:(List Int))(a1:(List Int)):Option Bool:=
 if¬((a0.length:Int)=(a1.length:Int)) then(some false) else(bE (α:=Unit) (dH k a0 a1 k 0) (some) λ_=>
 some true)
theorem iQ(k:Nat)(a0:(List Int))(a1:(List Int))(r:Bool)(h:fC k a0 a1=some r):
 dz Tryz.prog 14 [.rep Tl a0,.rep Tl a1] [] (λ_:Unit=>(bN [.eq (.bool r)],[])):=by
 unfold fC at h
 replace h:=bg h
 refine dz.of 26 Tryz.func14 rfl Tryz.ntmps14 rfl λS w0=>?_
 refine sr ?_
 refine cq ?_
 refine nt ?_
 refine ak ?_
 refine sr ?_
 refine mq ?_
 refine ol ig ?_
 refine mq ?_
 refine ol ig ?_
 refine jb (fL rfl) ?_
 refine nt ?_
 refine cn h (λh=>?_) (λh=>?_)
 .
  refine sr (cq (nt (rx ?_)));cases h;exact ra
 .
  refine sk (dk (Z:=Unit) (α:=Unit) (λz2 x1=>[]) (λz2 x1=>[]) (λe=>e=r) h (λe h=>Option.some.inj h) (λK hR h=>?_) (λz2 x1 h=>?_))
  .refine sr (cq (nt (ai ?_)));refine aD (λz4 y3=>[(0,.rep Tl a0),(1,.rep Tl a1),(5,I y3)]) (λz4 y3=>[]) (dH k a0 a1) k () 0 (λ_=>rfl) h (SE.fin [] ⟨rfl,rfl,rfl,trivial⟩ rfl) (λn z4 y3 h=>?_);unfold dH at h;refine ak (sr ?_);iterate 2 refine mq ?_
   refine ol ig ?_;refine jb (bo rfl) ?_;refine nt (ci h (λh=>?_) (λh=>?_))
   .refine sk (ak (ai (ak (cN ?_))));refine dm ?_;refine dm ?_;obtain⟨x5,l,h⟩:=aa h;refine db (aK (t:=Ti) rfl ig cF l) ?_;refine da (ao (t:=Ti) rfl cF rfl) ?_;refine dm ?_;refine dm ?_;obtain⟨x6,j,h⟩:=aa h;refine db (aK (t:=Ti) rfl ig cF j) ?_;refine da (ao (t:=Ti) rfl cF rfl) ?_;refine df dS ?_;refine jb (fL rfl) ?_;refine nt (cn h (λh=>?_) (λh=>?_))
    .refine sr (cq (nt (aA (br (bB (bv ?_))))));obtain rfl:=hR _ h;exact ra
    .refine bi (aO (tn (ab (mq ?_))));obtain⟨x7,c,h⟩:=aa h;refine jb (bj rfl c) ?_;refine aq (nl ?_);exact jz ((),x7) h []
   .refine xa ?_;exact jz ((),()) h []
  .refine sr (cq (nt (aA ?_)));cases h;exact ra
def ik(k:Nat)(a0:(List (List Int)))(a1:(List (List Int))):Nat->Int->Option (Except Bool Unit)
 |0,_=>none
 |n+1,y3=>
  if y3 < (a0.length:Int) then((aF a0 y3).bind λx5=>
  (aF a1 y3).bind λx6=>
  (fC k x5 x6).bind λr7=>
  if¬(r7=true) then(some (.error false)) else((ck (y3+1)).bind λx8=>
  ik k a0 a1 n x8)) else(some (.ok ()))
def jS(k:Nat)(a0:(List (List Int)))(a1:(List (List Int))):Option Bool:=
 if¬((a0.length:Int)=(a1.length:Int)) then(some false) else(bE (α:=Unit) (ik k a0 a1 k 0) (some) λ_=>
 some true)
theorem ny(k:Nat)(a0:(List (List Int)))(a1:(List (List Int)))(r:Bool)(h:jS k a0 a1=some r):
 dz Tryz.prog 25 [.rep (.slice Tl) a0,.rep (.slice Tl) a1] [] (λ_:Unit=>(bN [.eq (.bool r)],[])):=by
 unfold jS at h
 replace h:=bg h
 refine dz.of 27 Tryz.func25 rfl Tryz.ntmps25 rfl λS w0=>?_
 refine sr ?_
 refine cq ?_
 refine nt ?_
 refine ak ?_
 refine sr ?_
 refine mq ?_
 refine ol mM ?_
 refine mq ?_
 refine ol mM ?_
 refine jb (fL rfl) ?_
 refine nt ?_
 refine cn h (λh=>?_) (λh=>?_)
 .
  refine sr (cq (nt (rx ?_)));cases h;exact ra
 .
  refine sk (dk (Z:=Unit) (α:=Unit) (λz2 x1=>[]) (λz2 x1=>[]) (λe=>e=r) h (λe h=>Option.some.inj h) (λK hR h=>?_) (λz2 x1 h=>?_))
  .refine sr (cq (nt (ai ?_)));refine aD (λz4 y3=>[(0,.rep (.slice Tl) a0),(1,.rep (.slice Tl) a1),(5,I y3)]) (λz4 y3=>[]) (ik k a0 a1) k () 0 (λ_=>rfl) h (SE.fin [] ⟨rfl,rfl,rfl,trivial⟩ rfl) (λn z4 y3 h=>?_);unfold ik at h;refine ak (sr ?_);iterate 2 refine mq ?_
   refine ol mM ?_;refine jb (bo rfl) ?_;refine nt (ci h (λh=>?_) (λh=>?_))
   .refine sk (ak (ai (ak (cN ?_))));refine dm ?_;refine dm ?_;obtain⟨x5,l,h⟩:=aa h;refine db (aK (t:=Tl) rfl mM dN l) ?_;refine da (ao (t:=Tl) rfl dN rfl) ?_;refine dm ?_;refine dm ?_;obtain⟨x6,j,h⟩:=aa h;refine db (aK (t:=Tl) rfl mM dN j) ?_;refine da (ao (t:=Tl) rfl dN rfl) ?_;refine df dS ?_;obtain⟨r7,s,h⟩:=aa h;refine jb (ax [.tmp 20,.tmp 24] rfl rfl L9 rfl (iQ k x5 x6 r7 s)) ?_;refine ja (gZ rfl) ?_;refine nt (cw h (λh=>?_) (λh=>?_))
    .refine sr (cq (nt (aA (br (bB (bv ?_))))));obtain rfl:=hR _ h;exact ra
    .refine bi (aO (tn (ab (mq ?_))));obtain⟨x8,c,h⟩:=aa h;refine jb (bj rfl c) ?_;refine aq (nl ?_);exact jz ((),x8) h []
   .refine xa ?_;exact jz ((),()) h []
  .refine sr (cq (nt (aA ?_)));cases h;exact ra
def lO(k:Nat)(a0:Int)(a1:Int)(a2:Bool):Option bp:=
 some (a0,a1,a2)
theorem mR(k:Nat)(a0:Int)(a1:Int)(a2:Bool)(r:bp)(h:lO k a0 a1 a2=some r):
 dz Tryz.prog 76 [I a0,I a1,.eq (.bool a2)] [] (λ_:Unit=>(bN [.rep aR r],[])):=by
 unfold lO at h
 replace h:=bg h
 refine dz.of 11 Tryz.func76 rfl Tryz.ntmps76 rfl λS w0=>?_
 refine sr ?_
 refine aX rfl rfl rfl (be rfl Br Jj) trivial λb1=>?_
 refine nt ?_
 refine sr ?_
 iterate 3 refine mq ?_
 refine jc (eE [(0,.tmp 7,_),(1,.tmp 8,_),(2,.tmp 9,_)] rfl QI Br N5 (jV ⟨rfl,rfl,rfl,trivial⟩) rfl) ?_
 refine aN rfl rfl (aI rfl sM trivial rfl rfl) ⟨rfl,rfl,trivial⟩ ?_
 refine nt ?_
 refine aA ?_
 refine bK (gq (a:=.agg (.pair (I a0) (.pair (I a1) (.eq (.bool a2))))) (a':=.rep aR (a0,a1,a2)) (iY (.agg (.pair .int (.pair .int .bool))))) ?_
 cases h
 exact aP () [.rep aR (a0,a1,a2)] 0 ⟨⟨_,_,_,_,_,rfl,(.head _),sM,(s7),rfl⟩,trivial⟩ rfl
def jd(k:Nat)(a0:(List bp)):Option ae:=
 (lO k 1 2 true).bind λr2=>
 (lO k 2 1 false).bind λr3=>
 (lO k 3 3 false).bind λr4=>
 (cL (bD (length [r2,r3,r4]+length a0))).bind λ_=>
 some (4,1,1,2,[[[0,1,2],[3]],[[0,1],[2,3]],[[1,2,3]],[[1,3],[2]]],[r2,r3,r4]++a0)
theorem ij(k:Nat)(a0:(List bp))(r:ae)(h:jd k a0=some r):
 dz Tryz.prog 45 [Rs aR a0] [] (λ_:Unit=>(bN [.rep an r],[])):=by
 unfold jd at h
 replace h:=bg h
 refine dz.of 24 Tryz.func45 rfl Tryz.ntmps45 rfl λS w0=>?_
 refine sr ?_
 refine aX rfl rfl rfl (be rfl uw yN) trivial λb1=>?_
 refine nt ?_
 refine sr ?_
 obtain⟨r2,l,h⟩:=aa h
 have u:=mR k 1 2 true r2 l
 refine jc (ax [.const (.int .i64 (1)),.const (.int .i64 (2)),.const (.bool true)] rfl rfl PD rfl u) ?_
 obtain⟨r3,j,h⟩:=aa h
 have s:=mR k 2 1 false r3 j
 refine jc (ax [.const (.int .i64 (2)),.const (.int .i64 (1)),.const (.bool false)] rfl rfl PD rfl s) ?_
 obtain⟨r4,e,h⟩:=aa h
 have n:=mR k 3 3 false r4 e
 refine jc (ax [.const (.int .i64 (3)),.const (.int .i64 (3)),.const (.bool false)] rfl rfl PD rfl n) ?_
 refine aX rfl rfl rfl (lI (t:=aR) [(.tmp 4,_),(.tmp 5,_),(.tmp 6,_)] [r2,r3,r4] rfl rfl KO (.cons rfl .rep (.cons rfl .rep (.cons rfl .rep .nil))) rfl rfl) ⟨rfl,rfl,rfl,trivial⟩ λv5=>?_
 refine aq ?_
 refine nt ?_
 refine sr ?_
 refine jc (bb (t:=Ti) [(.const (.int .i64 (0)),_),(.const (.int .i64 (1)),_),(.const (.int .i64 (2)),_)] [0,1,2] rfl rfl dO (.cons rfl .int (.cons rfl .int (.cons rfl .int .nil))) rfl rfl) ?_
 refine ja (bb (t:=Ti) [(.const (.int .i64 (3)),_)] [3] rfl rfl dO (.cons rfl .int .nil) rfl rfl) ?_
 refine jb (bb (t:=Tl) [(.tmp 8,_),(.tmp 9,_)] [[0,1,2],[3]] rfl rfl l9 (.cons rfl .rep (.cons rfl .rep .nil)) rfl rfl) ?_
 refine jb (bb (t:=Ti) [(.const (.int .i64 (0)),_),(.const (.int .i64 (1)),_)] [0,1] rfl rfl dO (.cons rfl .int (.cons rfl .int .nil)) rfl rfl) ?_
 refine jb (bb (t:=Ti) [(.const (.int .i64 (2)),_),(.const (.int .i64 (3)),_)] [2,3] rfl rfl dO (.cons rfl .int (.cons rfl .int .nil)) rfl rfl) ?_
 refine jb (bb (t:=Tl) [(.tmp 11,_),(.tmp 12,_)] [[0,1],[2,3]] rfl rfl l9 (.cons rfl .rep (.cons rfl .rep .nil)) rfl rfl) ?_
 refine jc (bb (t:=Ti) [(.const (.int .i64 (1)),_),(.const (.int .i64 (2)),_),(.const (.int .i64 (3)),_)] [1,2,3] rfl rfl dO (.cons rfl .int (.cons rfl .int (.cons rfl .int .nil))) rfl rfl) ?_
 refine ja (bb (t:=Tl) [(.tmp 14,_)] [[1,2,3]] rfl rfl l9 (.cons rfl .rep .nil) rfl rfl) ?_
 refine jb (bb (t:=Ti) [(.const (.int .i64 (1)),_),(.const (.int .i64 (3)),_)] [1,3] rfl rfl dO (.cons rfl .int (.cons rfl .int .nil)) rfl rfl) ?_
 refine ja (bb (t:=Ti) [(.const (.int .i64 (2)),_)] [2] rfl rfl dO (.cons rfl .int .nil) rfl rfl) ?_
 refine jb (bb (t:=Tl) [(.tmp 16,_),(.tmp 17,_)] [[1,3],[2]] rfl rfl l9 (.cons rfl .rep (.cons rfl .rep .nil)) rfl rfl) ?_
 refine cy rfl (bb (t:=(.slice Tl)) [(.tmp 10,_),(.tmp 13,_),(.tmp 15,_),(.tmp 18,_)] [[[0,1,2],[3]],[[0,1],[2,3]],[[1,2,3]],[[1,3],[2]]] rfl rfl xQ (.cons rfl .rep (.cons rfl .rep (.cons rfl .rep (.cons rfl .rep .nil)))) rfl rfl) ⟨rfl,rfl,rfl,rfl,trivial⟩ ?_
 iterate 2 refine mq ?_
 obtain⟨u6,c,h⟩:=aa h
 refine dK rfl rfl rfl (bV rfl rfl KO (am c)) ⟨rfl,rfl,trivial⟩ λv7=>?_
 refine eg (ic [22] ⟨rfl,trivial⟩) ?_
 refine cy rfl (eE [(0,.const (.int .i64 (4)),_),(1,.const (.int .i64 (1)),_),(2,.const (.int .i64 (1)),_),(3,.const (.int .i64 (2)),_),(4,.tmp 19,_),(5,.tmp 22,_)] rfl QJ uw N6 (jV ⟨rfl,rfl,rfl,rfl,rfl,rfl,trivial⟩) rfl) ⟨rfl,rfl,rfl,rfl,rfl,rfl,trivial⟩ ?_
 refine aN rfl rfl (aI rfl fE trivial rfl rfl) ⟨rfl,rfl,trivial⟩ ?_
 refine nt ?_
 refine aA ?_
 refine bK (gq (a:=.agg (.pair (I 4) (.pair (I 1) (.pair (I 1) (.pair (I 2) (.pair (.rep (.slice (.slice Tl)) [[[0,1,2],[3]],[[0,1],[2,3]],[[1,2,3]],[[1,3],[2]]]) (Rs aR ([r2,r3,r4]++a0)))))))) (a':=.rep an (4,1,1,2,[[[0,1,2],[3]],[[0,1],[2,3]],[[1,2,3]],[[1,3],[2]]],[r2,r3,r4]++a0)) (iY (.agg (.pair .int (.pair .int (.pair .int (.pair .int (.pair .rep .rep)))))))) ?_
 cases h
 exact aP () [.rep an (4,1,1,2,[[[0,1,2],[3]],[[0,1],[2,3]],[[1,2,3]],[[1,3],[2]]],[r2,r3,r4]++a0)] 0 ⟨⟨_,_,_,_,_,rfl,(.head _),fE,(s7),rfl⟩,trivial⟩ rfl
def jj(k:Nat)(a0:(List Int)):Nat->(Int×Int)->Option Int
 |0,_=>none
 |n+1,y4=>
  if y4.2 < (a0.length:Int) then((aF a0 y4.2).bind λx6=>
  (ck (y4.2+1)).bind λx7=>
  jj k a0 n (IG y4.1 x6,x7)) else(some y4.1)
def mh(k:Nat)(a0:(List Int)):Option Int:=
 if(a0.length:Int) < 1 then(none) else((aF a0 0).bind λx1=>
 ((jj k a0 k (x1,1)):Option (Int)).bind λx2=>
 some x2)
theorem oR(k:Nat)(a0:(List Int))(r:Int)(h:mh k a0=some r):
 dz Tryz.prog 78 [.rep Tl a0] [] (λ_:Unit=>(bN [I r],[])):=by
 unfold mh at h
 replace h:=bg h
 refine dz.of 25 Tryz.func78 rfl Tryz.ntmps78 rfl λS w0=>?_
 refine sr ?_
 refine cq ?_
 refine nt ?_
 refine ak ?_
 refine sr ?_
 refine mq ?_
 refine ol ig ?_
 refine jb (bo rfl) ?_
 refine nt ?_
 refine ci h (λh=>?_) (λh=>?_)
 .
  cases h
 .
  refine sk (sr (mq ?_));obtain⟨x1,j,h⟩:=aa h;refine jb (aK (t:=Ti) rfl ig cF j) ?_;refine ja (ao (t:=Ti) rfl cF rfl) ?_;refine aq (nt ?_);refine aC (Z:=Unit) (α:=Int) (λz3 x2=>[(3,I x2)]) (λz3 x2=>[]) h (λK h=>?_) (λz3 x2 h=>?_)
  .refine sr (cq (nt (ai ?_)));refine aD (λz5 y4=>[(0,.rep Tl a0),(3,I y4.1),(4,I y4.2)]) (λz5 y4=>[]) (jj k a0) k () (x1,1) (λ_=>rfl) h (SE.fin [] ⟨rfl,rfl,rfl,trivial⟩ rfl) (λn z5 y4 h=>?_);unfold jj at h;refine ak (sr ?_);iterate 2 refine mq ?_
   refine ol ig ?_;refine jb (bo rfl) ?_;refine nt (ci h (λh=>?_) (λh=>?_))
   .refine sk (ak (ai (ab ?_)));iterate 3 refine mq ?_
    obtain⟨x6,e,h⟩:=aa h;refine jb (aK (t:=Ti) rfl ig cF e) ?_;refine ja (ao (t:=Ti) rfl cF rfl) ?_;refine jb (QQ rfl rfl) ?_;refine aq (aE (aO (tn (ab ?_))));refine mq ?_;obtain⟨x7,c,h⟩:=aa h;refine jb (bj rfl c) ?_;refine aq (nl ?_);exact jz ((),(IG y4.1 x6,x7)) h []
   .refine xa ?_;exact jz ((),y4.1) h []
  .refine sr (mq ?_);refine aq (nt (aA ?_));cases h;exact ra
def jk(k:Nat)(a0:(List Int)):Nat->(Int×Int)->Option Int
 |0,_=>none
 |n+1,y4=>
  if y4.2 < (a0.length:Int) then((aF a0 y4.2).bind λx6=>
  (ck (y4.2+1)).bind λx7=>
  jk k a0 n (tl y4.1 x6,x7)) else(some y4.1)
def oS(k:Nat)(a0:(List Int)):Option Int:=
 if(a0.length:Int) < 1 then(none) else((aF a0 0).bind λx1=>
 ((jk k a0 k (x1,1)):Option (Int)).bind λx2=>
 some x2)
theorem uG(k:Nat)(a0:(List Int))(r:Int)(h:oS k a0=some r):
 dz Tryz.prog 79 [.rep Tl a0] [] (λ_:Unit=>(bN [I r],[])):=by
 unfold oS at h
 replace h:=bg h
 refine dz.of 25 Tryz.func79 rfl Tryz.ntmps79 rfl λS w0=>?_
 refine sr ?_
 refine cq ?_
 refine nt ?_
 refine ak ?_
 refine sr ?_
 refine mq ?_
 refine ol ig ?_
 refine jb (bo rfl) ?_
 refine nt ?_
 refine ci h (λh=>?_) (λh=>?_)
 .
  cases h
 .
  refine sk (sr (mq ?_));obtain⟨x1,j,h⟩:=aa h;refine jb (aK (t:=Ti) rfl ig cF j) ?_;refine ja (ao (t:=Ti) rfl cF rfl) ?_;refine aq (nt ?_);refine aC (Z:=Unit) (α:=Int) (λz3 x2=>[(3,I x2)]) (λz3 x2=>[]) h (λK h=>?_) (λz3 x2 h=>?_)
  .refine sr (cq (nt (ai ?_)));refine aD (λz5 y4=>[(0,.rep Tl a0),(3,I y4.1),(4,I y4.2)]) (λz5 y4=>[]) (jk k a0) k () (x1,1) (λ_=>rfl) h (SE.fin [] ⟨rfl,rfl,rfl,trivial⟩ rfl) (λn z5 y4 h=>?_);unfold jk at h;refine ak (sr ?_);iterate 2 refine mq ?_
   refine ol ig ?_;refine jb (bo rfl) ?_;refine nt (ci h (λh=>?_) (λh=>?_))
   .refine sk (ak (ai (ab ?_)));iterate 3 refine mq ?_
    obtain⟨x6,e,h⟩:=aa h;refine jb (aK (t:=Ti) rfl ig cF e) ?_;refine ja (ao (t:=Ti) rfl cF rfl) ?_;refine jb (HV rfl rfl) ?_;refine aq (aE (aO (tn (ab ?_))));refine mq ?_;obtain⟨x7,c,h⟩:=aa h;refine jb (bj rfl c) ?_;refine aq (nl ?_);exact jz ((),(tl y4.1 x6,x7)) h []
   .refine xa ?_;exact jz ((),y4.1) h []
  .refine sr (mq ?_);refine aq (nt (aA ?_));cases h;exact ra
def gd(k:Nat):Nat->((List Int)×Int×Int)->Option (List Int)
 |0,_=>none
 |n+1,y2=>
  if y2.2.1 < y2.2.2 then((aF y2.1 y2.2.2).bind λx4=>
  (aF y2.1 y2.2.1).bind λx5=>
  (aF y2.1 y2.2.1).bind λx6=>
  (aF (List.set y2.1 (Int.toNat y2.2.1) x4) y2.2.2).bind λx7=>
  (ck (y2.2.1+1)).bind λx8=>
  (ck (y2.2.2 - 1)).bind λx9=>
  gd k n (List.set (List.set y2.1 (Int.toNat y2.2.1) x4) (Int.toNat y2.2.2) x5,x8,x9)) else(some y2.1)
def kB(k:Nat)(a0:(List Int)):Option (List Int):=
 (ck ((a0.length:Int) - 1)).bind λx1=>
 gd k k (a0,0,x1)
theorem qH(k:Nat)(a0:(List Int))(c:Value)(r:(List Int))(h:kB k a0=some r):
 dz Tryz.prog 81 [.eq c] [.sl c 3 Ti a0] (λ_:Unit=>(bN [],[.sl c 3 Ti r])):=by
 unfold kB at h
 replace h:=bg h
 refine dz.of 28 Tryz.func81 rfl Tryz.ntmps81 rfl λS w0=>?_
 refine sr ?_
 refine mq ?_
 refine ka (jD rfl rfl ig) ?_
 obtain⟨x1,mc,h⟩:=aa h
 refine jb (dL rfl mc) ?_
 refine cq ?_
 refine aq ?_
 refine nt ?_
 refine ai ?_
 refine aD (λz3 y2=>[(0,.eq c),(2,I y2.2.1),(3,I y2.2.2)]) (λz3 y2=>[.sl c 3 Ti y2.1]) (gd k) k () (a0,0,x1) (λ_=>rfl) h (SE.fin [0] ⟨rfl,rfl,rfl,trivial⟩ rfl) (λn z3 y2 h=>?_)
 unfold gd at h
 refine ak ?_
 refine sr ?_
 iterate 2 refine mq ?_
 refine jb (bo rfl) ?_
 refine nt ?_
 refine ci h (λh=>?_) (λh=>?_)
 .
  refine sk (ak (ai (nH ?_)));refine ba rfl rfl rfl (aV rfl) ⟨rfl,trivial⟩ ?_;refine ba rfl rfl rfl (aV rfl) ⟨rfl,trivial⟩ ?_;refine ba rfl rfl rfl (aV rfl) ⟨rfl,trivial⟩ ?_;refine ba rfl rfl rfl (aV rfl) ⟨rfl,trivial⟩ ?_;refine ba rfl rfl rfl (aV rfl) ⟨rfl,trivial⟩ ?_;refine ba rfl rfl rfl (aV rfl) ⟨rfl,trivial⟩ ?_;obtain⟨x4,D,h⟩:=aa h;refine ff 0 rfl rfl rfl rfl (bA (t:=Ti) rfl ig cF D) ⟨rfl,rfl,trivial⟩ ?_;refine ff 0 rfl rfl rfl rfl (ek (i:=Int.toNat y2.2.2) (off:=0) rfl cF (λ_=>rfl) rfl (dR D).2.2 rfl) ⟨rfl,trivial⟩ ?_;refine ba rfl rfl rfl (aV rfl) ⟨rfl,trivial⟩ ?_;refine ba rfl rfl rfl (aV rfl) ⟨rfl,trivial⟩ ?_;obtain⟨x5,y,h⟩:=aa h;refine ff 0 rfl rfl rfl rfl (bA (t:=Ti) rfl ig cF y) ⟨rfl,rfl,trivial⟩ ?_;refine ff 0 rfl rfl rfl rfl (ek (i:=Int.toNat y2.2.1) (off:=0) rfl cF (λ_=>rfl) rfl (dR y).2.2 rfl) ⟨rfl,trivial⟩ ?_;obtain⟨x6,x,h⟩:=aa h;refine ff 0 rfl rfl rfl rfl (bA (t:=Ti) rfl ig cF x) ⟨rfl,rfl,trivial⟩ ?_;refine ry 13 [true,true,false,false,true,true,true,true,true,true,true,true,true] [27] [] [] rfl (by kernel_rfl) (by kernel_rfl) (by kernel_rfl) dS (λvs hv hB=>?_);obtain⟨w0,VF,rfl,Y⟩:=ap hv;obtain⟨w1,VE,rfl,X⟩:=ap Y;obtain⟨w2,VD,rfl,U⟩:=ap X;obtain⟨w3,VC,rfl,Q⟩:=ap U;obtain⟨w4,VB,rfl,O⟩:=ap Q;obtain⟨w5,VA,rfl,M⟩:=ap O;obtain⟨w6,Vz,rfl,J⟩:=ap M;obtain⟨w7,Vy,rfl,F⟩:=ap J;obtain⟨w8,Vx,rfl,E⟩:=ap F;obtain⟨w9,Vt,rfl,s⟩:=ap E;obtain⟨Vw,zz,rfl,l⟩:=ap s;obtain⟨Vv,qt,rfl,j⟩:=ap l;obtain⟨Vu,mw,rfl,e⟩:=ap j;obtain rfl:=nZ e;refine⟨[0],[.sl c 3 Ti y2.1],by kernel_rfl,by decide,?_⟩;refine oq rfl rfl (fj (i:=Int.toNat y2.2.1) rfl cF rfl (oa x) rfl .int rfl) ⟨rfl,rfl,trivial⟩ (by kernel_rfl) ?_;obtain⟨x7,u,h⟩:=aa h;refine tK rfl rfl rfl rfl (bA (t:=Ti) rfl ig cF u) ⟨rfl,rfl,trivial⟩ (by kernel_rfl) ?_;refine oq rfl rfl (fj (i:=Int.toNat y2.2.2) rfl cF rfl (oa u) rfl .int rfl) ⟨rfl,rfl,trivial⟩ (by kernel_rfl) ?_;refine tL ?_;refine bK (SE.fin (Γ':=[(0,.eq c),(2,I y2.2.1),(3,I y2.2.2)]) (Δ':=[.sl c 3 Ti (List.set (List.set y2.1 (Int.toNat y2.2.1) x4) (Int.toNat y2.2.2) x5)]) [0] ⟨rfl,rfl,rfl,trivial⟩ rfl) ?_;refine aO (tn (ab (mq ?_)));obtain⟨x8,gw,h⟩:=aa h;refine jb (bj rfl gw) ?_;refine mq ?_;obtain⟨x9,Z,h⟩:=aa h;refine jb (dL rfl Z) ?_;refine aq ?_;refine aq (nl ?_);exact jz ((),(List.set (List.set y2.1 (Int.toNat y2.2.1) x4) (Int.toNat y2.2.2) x5,x8,x9)) h [0]
 .
  refine fK (bM (bM (c6 (kz ?_))));cases h;exact aP () [] 1 trivial rfl
