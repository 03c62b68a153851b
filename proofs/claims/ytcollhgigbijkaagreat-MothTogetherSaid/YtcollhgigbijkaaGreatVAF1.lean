import Derived.Test.YtcollhgigbijkaaGreatVAFacts
open Nat
open List hiding mem_of_getElem?
open Array hiding mem_of_getElem? mk
set_option linter.unusedSimpArgs false
set_option linter.unusedVariables false
set_option maxRecDepth 4000
set_option maxHeartbeats 1000000
namespace Go.Proofs.YtcollhgigbijkaaGreat
open K Go Go.Proofs
def gz(k:Nat)(a0:bP):Option (Int×bP):=
 ((if a0.2.1 < (a0.1.length:Int) then((aU a0.1 a0.2.1).bind λx3=>
 some (IntKind.u64.wrap ((IntKind.u64.wrap ((IntKind.u64.wrap (a0.2.2 * 6364136223846793005))+1442695040888963407))+(IntKind.u64.wrap ((IntKind.u64.wrap x3) * 2862933555777941757))))) else(some (IntKind.u64.wrap ((IntKind.u64.wrap (a0.2.2 * 6364136223846793005))+1442695040888963407)))):Option (Int)).bind λx1=>
 (ck (a0.2.1+1)).bind λx4=>
 some (gB .u64 (ry .u64 (IntKind.u64.wrap ((ry .u64 x1 (gB .u64 x1 29)) * 2685821657736338717)) (gB .u64 (IntKind.u64.wrap ((ry .u64 x1 (gB .u64 x1 29)) * 2685821657736338717)) 32)) 8,(a0.1,x4,x1))
theorem rm(k:Nat)(a0:bP)(c:Nat)(r:Int×bP)(h:gz k a0=some r):
 dx Tryz.prog 51 [Pt c] [.obj c 69 (.agg (.pair (.rep Tl a0.1) (.pair (I a0.2.1) (.eq (.int .u64 a0.2.2)))))] (λ_:Unit=>(bI [.eq (.int .u64 r.1)],[.obj c 69 (.agg (.pair (.rep Tl r.2.1) (.pair (I r.2.2.1) (.eq (.int .u64 r.2.2.2)))))])):=by
 unfold gz at h
 replace h:=bg h
 refine dx.of 67 Tryz.func51 rfl Tryz.ntmps51 rfl λS w0=>?_
 refine sr ?_
 refine cq ?_
 refine nt ?_
 refine sr ?_
 iterate 2 refine mq ?_
 refine ja (cF rfl) ?_
 refine fl rC ?_
 refine lo CJ ?_
 refine jb (zL rfl) ?_
 refine jb (Fo rfl) ?_
 refine ja (cF rfl) ?_
 refine fl rC ?_
 refine aS rfl rfl (aO rfl CJ rfl rfl rfl) ⟨rfl,rfl,trivial⟩ ?_
 refine nt ?_
 refine aH (Z:=Unit) (α:=Int) (λz2 x1=>[(0,Pt c)]) (λz2 x1=>[.obj c 69 (.agg (.pair (.rep Tl a0.1) (.pair (I a0.2.1) (.eq (.int .u64 x1)))))]) h (λK h=>?_) (λz2 x1 h=>?_)
 .
  refine ak (cP ?_);refine dm ?_;refine da (cF rfl) ?_;refine da (aG rfl wG) ?_;refine ea 0 (ax rfl cG o9 rfl) ?_;refine dm ?_;refine da (cF rfl) ?_;refine da (aG rfl Gy) ?_;refine ea 0 (ax rfl ii o9 rfl) ?_;refine da (vc rfl rfl iE) ?_;refine df ew ?_;refine jb (bJ rfl) ?_;refine nt (ci h (λh=>?_) (λh=>?_))
  .refine cP ?_;refine dm ?_;refine dm ?_;refine da (cF rfl) ?_;refine da (aG rfl rC) ?_;refine ea 0 (ax rfl CJ o9 rfl) ?_;refine dm ?_;refine da (cF rfl) ?_;refine da (aG rfl Gy) ?_;refine ea 0 (ax rfl ii o9 rfl) ?_;refine dm ?_;refine da (cF rfl) ?_;refine da (aG rfl wG) ?_;refine ea 0 (ax rfl cG o9 rfl) ?_;obtain⟨x3,j,h⟩:=aa h;refine db (aX (t:=Ti) rfl iE cG j) ?_;refine da (ap (t:=Ti) rfl cG rfl) ?_;refine da (qR rfl U3 PY) ?_;refine db (zL rfl) ?_;refine db (Fo rfl) ?_;refine df ew ?_;refine ja (cF rfl) ?_;refine fl rC ?_;refine aS rfl rfl (aO rfl CJ rfl rfl rfl) ⟨rfl,rfl,trivial⟩ ?_;refine nl ?_;exact jz ((),IntKind.u64.wrap ((IntKind.u64.wrap ((IntKind.u64.wrap (a0.2.2 * 6364136223846793005))+1442695040888963407))+(IntKind.u64.wrap ((IntKind.u64.wrap x3) * 2862933555777941757)))) h [0]
  .refine be (an ?_);exact jz ((),IntKind.u64.wrap ((IntKind.u64.wrap (a0.2.2 * 6364136223846793005))+1442695040888963407)) h [0]
 .
  refine sr (mq ?_);refine ja (cF rfl) ?_;refine fl wG ?_;refine lo cG ?_;obtain⟨x4,e,h⟩:=aa h;refine jb (bA rfl e) ?_;refine ja (cF rfl) ?_;refine fl wG ?_;refine aS rfl rfl (aO rfl cG rfl rfl rfl) ⟨rfl,rfl,trivial⟩ ?_;refine nt (ak (cP ?_));refine dm ?_;refine da (cF rfl) ?_;refine da (aG rfl rC) ?_;refine ea 0 (ax rfl CJ o9 rfl) ?_;refine dm ?_;refine da (cF rfl) ?_;refine da (aG rfl rC) ?_;refine ea 0 (ax rfl CJ o9 rfl) ?_;refine fy rfl rfl rfl (te rfl (by decide)) ⟨rfl,rfl,trivial⟩ ?_;refine df ew ?_;refine jb (KH rfl) ?_;refine aq (nt (sr ?_));refine mq ?_;refine jb (zL rfl) ?_;refine aq (nt (sr ?_));iterate 2 refine mq ?_
  refine bT rfl (te rfl (by decide)) ⟨rfl,rfl,trivial⟩ ?_;refine jb (KH rfl) ?_;refine bT rfl (te rfl (by decide)) ⟨rfl,rfl,trivial⟩ ?_;refine aq (nt (ay ?_));cases h;exact aM () [_] 1 ⟨rfl,trivial⟩ rfl
def cS(k:Nat)(a0:bP)(a1:Int):Option (Int×bP):=
 if a1 < 1 then(some (0,(a0.1,a0.2.1,a0.2.2))) else((gz k (a0.1,a0.2.1,a0.2.2)).bind λr1=>
 (ck (a1+1)).bind λx2=>
 (cO ((IntKind.u64.wrap x2)≠0)).bind λ_=>
 (ck (Int.tmod r1.1 (IntKind.u64.wrap x2))).bind λx4=>
 some (x4,(r1.2.1,r1.2.2.1,r1.2.2.2)))
theorem dk(k:Nat)(a0:bP)(c:Nat)(a1:Int)(r:Int×bP)(h:cS k a0 a1=some r):
 dx Tryz.prog 21 [Pt c,I a1] [.obj c 69 (.agg (.pair (.rep Tl a0.1) (.pair (I a0.2.1) (.eq (.int .u64 a0.2.2)))))] (λ_:Unit=>(bI [I r.1],[.obj c 69 (.agg (.pair (.rep Tl r.2.1) (.pair (I r.2.2.1) (.eq (.int .u64 r.2.2.2)))))])):=by
 unfold cS at h
 replace h:=bg h
 refine dx.of 14 Tryz.func21 rfl Tryz.ntmps21 rfl λS w0=>?_
 refine sr ?_
 refine cq ?_
 refine nt ?_
 refine ak ?_
 refine sr ?_
 refine mq ?_
 refine jb (bJ rfl) ?_
 refine nt ?_
 refine ci h (λh=>?_) (λh=>?_)
 .
  refine sr (cq (nt (rx ?_)));cases h;exact aM () [_] 1 ⟨rfl,trivial⟩ rfl
 .
  refine sk (sr (mq ?_));obtain⟨r1,n,h⟩:=aa h;refine ka (av [.tmp 7] rfl rfl QX rfl (rm k (a0.1,a0.2.1,a0.2.2) c r1 n)) ?_;refine mq ?_;obtain⟨x2,j,h⟩:=aa h;refine jb (bA rfl j) ?_;refine ja (qR rfl U3 PY) ?_;obtain⟨u3,l,h⟩:=aa h;refine jb (Oc rfl (am l)) ?_;obtain⟨x4,e,h⟩:=aa h;refine ja (xW rfl PY U3 e) ?_;refine aq (nt (ay ?_));cases h;exact aM () [_] 1 ⟨rfl,trivial⟩ rfl
def eY(k:Nat)(a0:bP)(a1:Int)(a2:Int):Option (Int×bP):=
 (ck (a2 - a1)).bind λx1=>
 (cS k (a0.1,a0.2.1,a0.2.2) x1).bind λr2=>
 (ck (a1+r2.1)).bind λx3=>
 some (x3,(r2.2.1,r2.2.2.1,r2.2.2.2))
theorem iz(k:Nat)(a0:bP)(c:Nat)(a1:Int)(a2:Int)(r:Int×bP)(h:eY k a0 a1 a2=some r):
 dx Tryz.prog 61 [Pt c,I a1,I a2] [.obj c 69 (.agg (.pair (.rep Tl a0.1) (.pair (I a0.2.1) (.eq (.int .u64 a0.2.2)))))] (λ_:Unit=>(bI [I r.1],[.obj c 69 (.agg (.pair (.rep Tl r.2.1) (.pair (I r.2.2.1) (.eq (.int .u64 r.2.2.2)))))])):=by
 unfold eY at h
 replace h:=bg h
 refine dx.of 14 Tryz.func61 rfl Tryz.ntmps61 rfl λS w0=>?_
 refine sr ?_
 refine cq ?_
 refine nt ?_
 refine sr ?_
 iterate 4 refine mq ?_
 obtain⟨x1,j,h⟩:=aa h
 refine jb (eI rfl j) ?_
 obtain⟨r2,l,h⟩:=aa h
 have n:=dk k (a0.1,a0.2.1,a0.2.2) c x1 r2 l
 refine kb (av [.tmp 8,.tmp 11] rfl rfl An rfl n) ?_
 obtain⟨x3,e,h⟩:=aa h
 refine jb (bA rfl e) ?_
 refine aq ?_
 refine nt ?_
 refine ay ?_
 cases h
 exact aM () [_] 1 ⟨rfl,trivial⟩ rfl
def fY(k:Nat)(a0:bP)(a1:(List Int)):Option (Int×bP):=
 (ck ((a1.length:Int) - 1)).bind λx1=>
 (cS k (a0.1,a0.2.1,a0.2.2) x1).bind λr2=>
 (aU a1 r2.1).bind λx3=>
 some (x3,(r2.2.1,r2.2.2.1,r2.2.2.2))
theorem kL(k:Nat)(a0:bP)(c:Nat)(a1:(List Int))(r:Int×bP)(h:fY k a0 a1=some r):
 dx Tryz.prog 62 [Pt c,.rep Tl a1] [.obj c 69 (.agg (.pair (.rep Tl a0.1) (.pair (I a0.2.1) (.eq (.int .u64 a0.2.2)))))] (λ_:Unit=>(bI [I r.1],[.obj c 69 (.agg (.pair (.rep Tl r.2.1) (.pair (I r.2.2.1) (.eq (.int .u64 r.2.2.2)))))])):=by
 unfold fY at h
 replace h:=bg h
 refine dx.of 13 Tryz.func62 rfl Tryz.ntmps62 rfl λS w0=>?_
 refine sr ?_
 refine cq ?_
 refine nt ?_
 refine sr ?_
 iterate 3 refine mq ?_
 refine ol iE ?_
 obtain⟨x1,j,h⟩:=aa h
 refine jb (eI rfl j) ?_
 obtain⟨r2,l,h⟩:=aa h
 have n:=dk k (a0.1,a0.2.1,a0.2.2) c x1 r2 l
 refine kb (av [.tmp 6,.tmp 9] rfl rfl An rfl n) ?_
 obtain⟨x3,e,h⟩:=aa h
 refine jb (aX (t:=Ti) rfl iE cG e) ?_
 refine ja (ap (t:=Ti) rfl cG rfl) ?_
 refine aq ?_
 refine nt ?_
 refine ay ?_
 cases h
 exact aM () [_] 1 ⟨rfl,trivial⟩ rfl
def eD(k:Nat)(a0:bP)(a1:Int):Option (Bool×bP):=
 (ck (a1 - 1)).bind λx1=>
 (cS k (a0.1,a0.2.1,a0.2.2) x1).bind λr2=>
 some (decide (r2.1=0),(r2.2.1,r2.2.2.1,r2.2.2.2))
theorem iT(k:Nat)(a0:bP)(c:Nat)(a1:Int)(r:Bool×bP)(h:eD k a0 a1=some r):
 dx Tryz.prog 63 [Pt c,I a1] [.obj c 69 (.agg (.pair (.rep Tl a0.1) (.pair (I a0.2.1) (.eq (.int .u64 a0.2.2)))))] (λ_:Unit=>(bI [.eq (.bool r.1)],[.obj c 69 (.agg (.pair (.rep Tl r.2.1) (.pair (I r.2.2.1) (.eq (.int .u64 r.2.2.2)))))])):=by
 unfold eD at h
 replace h:=bg h
 refine dx.of 10 Tryz.func63 rfl Tryz.ntmps63 rfl λS w0=>?_
 refine sr ?_
 refine cq ?_
 refine nt ?_
 refine sr ?_
 iterate 2 refine mq ?_
 obtain⟨x1,e,h⟩:=aa h
 refine jb (eI rfl e) ?_
 obtain⟨r2,j,h⟩:=aa h
 have l:=dk k (a0.1,a0.2.1,a0.2.2) c x1 r2 j
 refine kb (av [.tmp 5,.tmp 7] rfl rfl An rfl l) ?_
 refine jb (jk rfl) ?_
 refine aq ?_
 refine nt ?_
 refine ay ?_
 cases h
 exact aM () [_] 1 ⟨rfl,trivial⟩ rfl
def iC(k:Nat)(a0:(List Int)):Option (List Int):=
 (cO (cE (length ([]:(List Int))+length a0))).bind λ_=>
 some (([]:(List Int))++a0)
theorem so(k:Nat)(a0:(List Int))(r:(List Int))(h:iC k a0=some r):
 dx Tryz.prog 87 [.rep Tl a0] [] (λz:Value=>(bI [.eq z],[.sl z 3 Ti r])):=by
 unfold iC at h
 replace h:=bg h
 refine dx.of 6 Tryz.func87 rfl Tryz.ntmps87 rfl λS w0=>?_
 refine sr ?_
 refine cq ?_
 refine nt ?_
 refine sr ?_
 refine aY rfl rfl rfl (mf (t:=Ti) [] ([]:(List Int)) rfl rfl dA .nil rfl rfl) trivial λv1=>?_
 refine mq ?_
 obtain⟨u2,c,h⟩:=aa h
 refine dV rfl rfl rfl (cI rfl rfl dA (am c)) ⟨rfl,rfl,trivial⟩ λv3=>?_
 refine aq ?_
 refine nt ?_
 refine ay ?_
 cases h
 exact aM v3 [.eq v3] 1 ⟨rfl,trivial⟩ rfl
def dn(k:Nat)(a0:(List (List Int))):Nat->((List (List Int))×Int)->Option (List (List Int))
 |0,_=>none
 |n+1,y3=>
  if y3.2 < (a0.length:Int) then((aU a0 y3.2).bind λx5=>
  (iC k x5).bind λr6=>
  (cO (cE (length y3.1+length [r6]))).bind λ_=>
  (ck (y3.2+1)).bind λc=>
  dn k a0 n (y3.1++[r6],c)) else(some y3.1)
def gA(k:Nat)(a0:(List (List Int))):Option (List (List Int)):=
 ((dn k a0 k (([]:(List (List Int))),0)):Option ((List (List Int)))).bind λx1=>
 some x1
theorem rp(k:Nat)(a0:(List (List Int)))(r:(List (List Int)))(h:gA k a0=some r):
 dx Tryz.prog 64 [.rep (.slice Tl) a0] [] (λz:Value=>(bI [.eq z],[.sl z 22 Tl r])):=by
 unfold gA at h
 replace h:=bg h
 refine dx.of 20 Tryz.func64 rfl Tryz.ntmps64 rfl λS w0=>?_
 refine sr ?_
 refine cq ?_
 refine nt ?_
 refine sr ?_
 refine cq ?_
 refine nt ?_
 refine aH (Z:=Value) (α:=(List (List Int))) (λz2 x1=>[(3,.eq z2)]) (λz2 x1=>[.sl z2 22 Tl x1]) h (λK h=>?_) (λz2 x1 h=>?_)
 .
  refine sr (cq (nt (aj ?_)));refine iL (SE.nil 22 Tl) ?_;refine aF (λz4 y3=>[(0,.rep (.slice Tl) a0),(3,.eq z4),(4,I y3.2)]) (λz4 y3=>[.sl z4 22 Tl y3.1]) (dn k a0) k (.slice none 0 0) (([]:(List (List Int))),0) (λ_=>rfl) h (SE.fin [0] ⟨rfl,rfl,rfl,trivial⟩ rfl) (λn z4 y3 h=>?_);unfold dn at h;refine ak (sr ?_);iterate 2 refine mq ?_
  refine ol rW ?_;refine jb (bJ rfl) ?_;refine nt (ci h (λh=>?_) (λh=>?_))
  .refine sk (ak (aj (ab ?_)));iterate 3 refine mq ?_
   obtain⟨x5,j,h⟩:=aa h;refine jb (aX (t:=Tl) rfl rW ii j) ?_;refine ja (ap (t:=Tl) rfl ii rfl) ?_;obtain⟨r6,s,h⟩:=aa h;refine aY rfl rfl rfl (av [.tmp 15] rfl rfl QG rfl (so k x5 r6 s)) ⟨rfl,trivial⟩ λv7=>?_;refine eC (iG [16] ⟨rfl,trivial⟩) ?_;refine ja (bb (t:=Tl) [(.tmp 16,_)] [r6] rfl rfl oz (.cons rfl .rep .nil) rfl rfl) ?_;obtain⟨u8,l,h⟩:=aa h;refine dV rfl rfl rfl (cI rfl rfl oz (am l)) ⟨rfl,rfl,trivial⟩ λv9=>?_;refine aq (aE (aR (tn (ab ?_))));refine mq ?_;obtain⟨e,c,h⟩:=aa h;refine jb (bA rfl c) ?_;refine aq (nl ?_);exact jz (v9,(y3.1++[r6],e)) h [0]
  .refine xa ?_;exact jz (z4,y3.1) h [0]
 .
  refine sr (mq ?_);refine aq (nt (ay ?_));cases h;exact aM z2 [.eq z2] 1 ⟨rfl,trivial⟩ rfl
def dE(k:Nat)(a1:Int):Nat->((List Int)×Int×Int×(List Int)×Int)->Option ((List Int)×(List Int)×Int×Int)
 |0,_=>none
 |n+1,y3=>
  if y3.2.2.2.2 < a1 then((cS k (y3.1,y3.2.1,y3.2.2.1) y3.2.2.2.2).bind λr5=>
  (cO (cE (length y3.2.2.2.1+length [y3.2.2.2.2]))).bind λ_=>
  (aU (y3.2.2.2.1++[y3.2.2.2.2]) r5.1).bind λx8=>
  (aU (y3.2.2.2.1++[y3.2.2.2.2]) y3.2.2.2.2).bind λx9=>
  (aU (List.set (y3.2.2.2.1++[y3.2.2.2.2]) (Int.toNat y3.2.2.2.2) x8) r5.1).bind λe=>
  (ck (y3.2.2.2.2+1)).bind λc=>
  dE k a1 n (r5.2.1,r5.2.2.1,r5.2.2.2,List.set (List.set (y3.2.2.2.1++[y3.2.2.2.2]) (Int.toNat y3.2.2.2.2) x8) (Int.toNat r5.1) y3.2.2.2.2,c)) else(some (y3.2.2.2.1,y3.1,y3.2.1,y3.2.2.1))
def fZ(k:Nat)(a0:bP)(a1:Int):Option ((List Int)×bP):=
 ((dE k a1 k (a0.1,a0.2.1,a0.2.2,([]:(List Int)),0)):Option ((List Int)×(List Int)×Int×Int)).bind λx1=>
 some (x1.1,(x1.2.1,x1.2.2.1,x1.2.2.2))
theorem qj(k:Nat)(a0:bP)(c:Nat)(a1:Int)(r:(List Int)×bP)(h:fZ k a0 a1=some r):
 dx Tryz.prog 88 [Pt c,I a1] [.obj c 69 (.agg (.pair (.rep Tl a0.1) (.pair (I a0.2.1) (.eq (.int .u64 a0.2.2)))))] (λ_:Unit=>(bI [.rep Tl r.1],[.obj c 69 (.agg (.pair (.rep Tl r.2.1) (.pair (I r.2.2.1) (.eq (.int .u64 r.2.2.2)))))])):=by
 unfold fZ at h
 replace h:=bg h
 refine dx.of 32 Tryz.func88 rfl Tryz.ntmps88 rfl λS w0=>?_
 refine sr ?_
 refine cq ?_
 refine nt ?_
 refine sr ?_
 refine cq ?_
 refine nt ?_
 refine aH (Z:=Value) (α:=(List Int)×(List Int)×Int×Int) (λz2 x1=>[(5,.eq z2)]) (λz2 x1=>[.sl z2 3 Ti x1.1,.obj c 69 (.agg (.pair (.rep Tl x1.2.1) (.pair (I x1.2.2.1) (.eq (.int .u64 x1.2.2.2)))))]) h (λK h=>?_) (λz2 x1 h=>?_)
 .
  refine sr (cq (nt (aj ?_)));refine iL (SE.nil 3 Ti) ?_;refine aF (λz4 y3=>[(0,Pt c),(1,I a1),(5,.eq z4),(6,I y3.2.2.2.2)]) (λz4 y3=>[.obj c 69 (.agg (.pair (.rep Tl y3.1) (.pair (I y3.2.1) (.eq (.int .u64 y3.2.2.1))))),.sl z4 3 Ti y3.2.2.2.1]) (dE k a1) k (.slice none 0 0) (a0.1,a0.2.1,a0.2.2,([]:(List Int)),0) (λ_=>rfl) h (SE.fin [1,0] ⟨rfl,rfl,rfl,rfl,trivial⟩ rfl) (λn z4 y3 h=>?_);unfold dE at h;refine ak (sr ?_);iterate 2 refine mq ?_
  refine jb (bJ rfl) ?_;refine nt (ci h (λh=>?_) (λh=>?_))
  .refine sk (ak (aj (sr ?_)));iterate 2 refine mq ?_
   obtain⟨r5,y,h⟩:=aa h;refine kb (av [.tmp 13,.tmp 14] rfl rfl An rfl (dk k (y3.1,y3.2.1,y3.2.2.1) c y3.2.2.2.2 r5 y)) ?_;refine aq (nt (sr ?_));iterate 2 refine mq ?_
   refine ja (bb (t:=Ti) [(.tmp 17,_)] [y3.2.2.2.2] rfl rfl dA (.cons rfl .int .nil) rfl rfl) ?_;obtain⟨u6,x,h⟩:=aa h;refine fr 1 ?_;refine dV rfl rfl rfl (cI rfl rfl dA (am x)) ⟨rfl,rfl,trivial⟩ λv7=>?_;refine aq (nt (ab ?_));iterate 6 refine mq ?_
   obtain⟨x8,l,h⟩:=aa h;refine kb (cx (t:=Ti) rfl iE cG l) ?_;refine ka (f9 (i:=Int.toNat r5.1) (off:=0) rfl cG (λ_=>rfl) rfl (dp l).2.2 rfl) ?_;refine mq ?_;obtain⟨x9,j,h⟩:=aa h;refine kb (cx (t:=Ti) rfl iE cG j) ?_;refine aS rfl rfl (fS (i:=Int.toNat y3.2.2.2.2) rfl cG rfl (mA j) rfl .int rfl) ⟨rfl,rfl,trivial⟩ ?_;obtain⟨D,e,h⟩:=aa h;refine kb (cx (t:=Ti) rfl iE cG e) ?_;refine aS rfl rfl (fS (i:=Int.toNat r5.1) rfl cG rfl (mA e) rfl .int rfl) ⟨rfl,rfl,trivial⟩ ?_;refine aE (aR (tn (ab (mq ?_))));obtain⟨u,s,h⟩:=aa h;refine jb (bA rfl s) ?_;refine aq (nl ?_);exact jz (v7,(r5.2.1,r5.2.2.1,r5.2.2.2,List.set (List.set (y3.2.2.2.1++[y3.2.2.2.2]) (Int.toNat y3.2.2.2.2) x8) (Int.toNat r5.1) y3.2.2.2.2,u)) h [1,0]
  .refine xa ?_;exact jz (z4,(y3.2.2.2.1,y3.1,y3.2.1,y3.2.2.1)) h [1,0]
 .
  refine sr (mq ?_);refine aq (nt (ay ?_));refine ce (iG [4,5,31] ⟨rfl,rfl,rfl,trivial⟩) ?_;cases h;exact aM () [_] 1 ⟨rfl,trivial⟩ rfl
def lw(k:Nat)(a0:(List Int)):Option bP:=
 some (a0,0,1)
theorem tz(k:Nat)(a0:(List Int))(r:bP)(h:lw k a0=some r):
 dx Tryz.prog 11 [.rep Tl a0] [] (λz:Nat=>(bI [Pt z],[.obj z 69 (.agg (.pair (.rep Tl r.1) (.pair (I r.2.1) (.eq (.int .u64 r.2.2)))))])):=by
 unfold lw at h
 replace h:=bg h
 refine dx.of 6 Tryz.func11 rfl Tryz.ntmps11 rfl λS w0=>?_
 refine sr ?_
 refine cq ?_
 refine nt ?_
 refine sr ?_
 refine mq ?_
 refine jb (dO [(0,.tmp 3,_),(2,.const (.int .u64 (1)),_)] rfl Qd P7 Pi (jO ⟨rfl,rfl,trivial⟩) rfl) ?_
 refine aY rfl rfl rfl (vd rfl trivial) ⟨rfl,trivial⟩ λb1=>?_
 refine aq ?_
 refine nt ?_
 refine ay ?_
 cases h
 exact aM b1 [Pt b1] 1 ⟨rfl,trivial⟩ rfl
def fo(k:Nat)(a0:Int)(a1:Int):Option Int:=
 (cO (0≤a1)).bind λ_=>
 some (Be .u8 a0 (nE .u8 1 a1))
theorem jI(k:Nat)(a0:Int)(a1:Int)(r:Int)(h:fo k a0 a1=some r):
 dx Tryz.prog 50 [.eq (.int .u8 a0),I a1] [] (λ_:Unit=>(bI [.eq (.int .u8 r)],[])):=by
 unfold fo at h
 replace h:=bg h
 refine dx.of 9 Tryz.func50 rfl Tryz.ntmps50 rfl λS w0=>?_
 refine sr ?_
 refine cq ?_
 refine nt ?_
 refine sr ?_
 iterate 2 refine mq ?_
 obtain⟨u1,c,h⟩:=aa h
 refine jb (KI rfl (am c)) ?_
 refine jb (Qg rfl) ?_
 refine aq ?_
 refine nt ?_
 refine ay ?_
 cases h
 exact ra
def dj(k:Nat)(a0:Int)(a1:Int)(a2:Int):Option Bool:=
 ((if a1≤a0 then(some (decide (a0≤a2))) else(some false)):Option (Bool)).bind λx1=>
 some x1
theorem du(k:Nat)(a0:Int)(a1:Int)(a2:Int)(r:Bool)(h:dj k a0 a1 a2=some r):
 dx Tryz.prog 72 [I a0,I a1,I a2] [] (λ_:Unit=>(bI [.eq (.bool r)],[])):=by
 unfold dj at h
 replace h:=bg h
 refine dx.of 15 Tryz.func72 rfl Tryz.ntmps72 rfl λS w0=>?_
 refine sr ?_
 refine cq ?_
 refine nt ?_
 refine aH (Z:=Unit) (α:=Bool) (λz2 x1=>[(6,.eq (.bool x1))]) (λz2 x1=>[]) h (λK h=>?_) (λz2 x1 h=>?_)
 .
  refine ab ?_;iterate 2 refine mq ?_
  refine jb (AY rfl) ?_;refine mq ?_;refine cD (s:=10) rfl (λhb=>?_) (λhb=>?_)
  .replace h:=eU (uF hb) h;refine gm ?_;refine gm ?_;refine gb (AY rfl) ?_;refine pt ?_;refine aq (nl ?_);exact jz ((),decide (a0≤a2)) h []
  .replace h:=c6 (uG hb) h;iterate 3 refine gn ?_
   refine pf ?_;refine aq (nl ?_);exact jz ((),false) h []
 .
  refine ay ?_;cases h;exact ra
def fC(k:Nat)(a0:ah)(a1:cC):Option Int:=
 (((ck (a0.1 - 1)).bind λx5=>
 (dj k a1.1 0 x5).bind λr6=>
 if¬(r6=true) then(some true) else((dj k a1.2.1 0 (a0.2.2.2.2.1.length:Int)).bind λr7=>
 some (!r7))):Option (Bool)).bind λx3=>
 if x3=true then(some 3) else(some 0)
theorem pn(k:Nat)(a0:ah)(a1:cC)(r:Int)(h:fC k a0 a1=some r):
 dx Tryz.prog 68 [.rep au a0,.rep bN a1] [] (λ_:Unit=>(bI [I r],[])):=by
 unfold fC at h
 replace h:=bg h
 refine dx.of 21 Tryz.func68 rfl Tryz.ntmps68 rfl λS w0=>?_
 refine sr ?_
 refine bx λb1=>?_
 refine bx λb2=>?_
 refine cq ?_
 refine nt ?_
 refine ak ?_
 refine aH (Z:=Unit) (α:=Bool) (λz4 x3=>[(20,.eq (.bool x3))]) (λz4 x3=>[]) h (λK h=>?_) (λz4 x3 h=>?_)
 .
  refine ab (fl GA ?_);refine lo cG ?_;refine fl fH ?_;refine fr 1 ?_;refine lo cG ?_;obtain⟨x5,c,h⟩:=aa h;refine jb (eI rfl c) ?_;obtain⟨r6,j,h⟩:=aa h;refine jc (av [.tmp 6,.const (.int .i64 (0)),.tmp 9] rfl rfl wK rfl (du k a1.1 0 x5 r6 j)) ?_;refine ja (hH rfl) ?_;refine mq ?_;refine cD (s:=12) rfl (λhb=>?_) (λhb=>?_)
  .replace h:=eU (wn hb) h;iterate 7 refine gn ?_
   refine pt (nl ?_);exact jz ((),true) h []
  .replace h:=c6 (pX hb) h;refine ga (aG rfl Gz) ?_;refine fr 1 ?_;refine lH rfl rfl rfl rfl rfl rfl (ax rfl cG o9 rfl) ⟨rfl,trivial⟩ ?_;refine ga (aG rfl eE) ?_;refine fr 1 ?_;refine lH rfl rfl rfl rfl rfl rfl (ax rfl lD o9 rfl) ⟨rfl,trivial⟩ ?_;refine ga (vc rfl rfl AA) ?_;obtain⟨r7,e,h⟩:=aa h;refine gc (av [.tmp 14,.const (.int .i64 (0)),.tmp 17] rfl rfl wK rfl (du k a1.2.1 0 (a0.2.2.2.2.1.length:Int) r7 e)) ?_;refine ga (hH rfl) ?_;refine pf (nl ?_);exact jz ((), !r7) h []
 .
  refine cv h (λh=>?_) (λh=>?_)
  .refine sr (cq (nt (rx ?_)));cases h;exact ra
  .refine sk (sr (cq (nt (ay ?_))));cases h;exact ra
def ee(k:Nat)(a0:Int)(a1:Int):Option Bool:=
 (cO (0≤a1)).bind λ_=>
 some (decide ((py .u8 (gB .u8 a0 a1) 1)=1))
theorem fW(k:Nat)(a0:Int)(a1:Int)(r:Bool)(h:ee k a0 a1=some r):
 dx Tryz.prog 75 [.eq (.int .u8 a0),I a1] [] (λ_:Unit=>(bI [.eq (.bool r)],[])):=by
 unfold ee at h
 replace h:=bg h
 refine dx.of 10 Tryz.func75 rfl Tryz.ntmps75 rfl λS w0=>?_
 refine sr ?_
 refine cq ?_
 refine nt ?_
 refine sr ?_
 iterate 2 refine mq ?_
 obtain⟨u1,c,h⟩:=aa h
 refine jb (te rfl (am c)) ?_
 refine jb (Og rfl) ?_
 refine jb (jk rfl) ?_
 refine aq ?_
 refine nt ?_
 refine ay ?_
 cases h
 exact ra
def cT(k:Nat)(a0:ah)(x8:(List Int)):Nat->(Int×Int)->Option (Except Int Int)
 |0,_=>none
 |n+1,y9=>
  if y9.2 < (x8.length:Int) then((aU x8 y9.2).bind λc=>
  (ck (a0.1 - 1)).bind λh=>
  (dj k c 0 h).bind λr=>
  if¬(r=true) then(some (.error 3)) else((ee k y9.1 c).bind λl=>
  if l=true then(some (.error 4)) else((fo k y9.1 c).bind λj=>
  (ck (y9.2+1)).bind λe=>
  cT k a0 x8 n (j,e)))) else(some (.ok y9.1))
def cU(k:Nat)(a0:ah)(a1:(List (List Int))):Nat->(Int×Int)->Option (Except Int Unit)
 |0,_=>none
 |n+1,y4=>
  if y4.2 < (a1.length:Int) then(bE (α:=Int) ((aU a1 y4.2).bind λx8=>
  cT k a0 x8 k (y4.1,0)) (λe=>some (.error e)) λx6=>
  (ck (y4.2+1)).bind λc=>
  cU k a0 a1 n (x6,c)) else(some (.ok ()))
def iw(k:Nat)(a0:ah)(a1:(List (List Int))):Option Int:=
 if 3 < (a1.length:Int) then(some 6) else(bE (α:=Unit) (cU k a0 a1 k (0,0)) (some) λ_=>
 some 0)
theorem sf(k:Nat)(a0:ah)(a1:(List (List Int)))(r:Int)(h:iw k a0 a1=some r):
 dx Tryz.prog 90 [.rep au a0,.rep (.slice Tl) a1] [] (λ_:Unit=>(bI [I r],[])):=by
 unfold iw at h
 replace h:=bg h
 refine dx.of 39 Tryz.func90 rfl Tryz.ntmps90 rfl λS w0=>?_
 refine sr ?_
 refine bx λb1=>?_
 refine cq ?_
 refine nt ?_
 refine ak ?_
 refine sr ?_
 refine mq ?_
 refine ol rW ?_
 refine jb (oL rfl) ?_
 refine nt ?_
 refine ci h (λh=>?_) (λh=>?_)
 .
  refine sr (cq (nt (rx ?_)));cases h;exact ra
 .
  refine sk (sr (cq (nt ?_)));refine dw (Z:=Unit) (α:=Unit) (λz3 x2=>[]) (λz3 x2=>[]) (λe=>e=r) h (λe h=>Option.some.inj h) (λK hR h=>?_) (λz3 x2 h=>?_)
  .refine sr (mq ?_);refine ol rW ?_;refine eK rfl ?_;refine nt (aj (aF (λz5 y4=>[(2,Pt b1),(5,.eq (.int .u8 y4.1)),(13,.rep (.slice Tl) a1),(14,I (a1.length:Int)),(15,I y4.2)]) (λz5 y4=>[.obj b1 26 (.rep au a0)]) (cU k a0 a1) k () (0,0) (λ_=>rfl) h (SE.fin [0] ⟨rfl,rfl,rfl,rfl,rfl,trivial⟩ rfl) (λn z5 y4 h=>?_)));unfold cU at h;refine sr (jb (bJ rfl) ?_);refine nt (ak (ci h (λh=>?_) (λh=>?_)))
   .refine sk (dw (Z:=Unit) (α:=Int) (λz7 x6=>[(2,Pt b1),(5,.eq (.int .u8 x6)),(13,.rep (.slice Tl) a1),(14,I (a1.length:Int)),(15,I y4.2)]) (λz7 x6=>[.obj b1 26 (.rep au a0)]) (λe=>e=r) h (λe h=>hR e h) (λK hR h=>?_) (λz7 x6 h=>?_))
    .refine aj (sr ?_);obtain⟨x8,X,h⟩:=aa h;refine jb (aX (t:=Tl) rfl rW ii X) ?_;refine ja (ap (t:=Tl) rfl ii rfl) ?_;refine aq (nt (sr ?_));refine mq ?_;refine ol iE ?_;refine eK rfl ?_;refine nt (aj (aF (λj y9=>[(2,Pt b1),(5,.eq (.int .u8 y9.1)),(13,.rep (.slice Tl) a1),(14,I (a1.length:Int)),(15,I y4.2),(19,.rep Tl x8),(20,I (x8.length:Int)),(21,I y9.2)]) (λj y9=>[.obj b1 26 (.rep au a0)]) (cT k a0 x8) k () (y4.1,0) (λ_=>rfl) h (SE.fin [0] ⟨rfl,rfl,rfl,rfl,rfl,rfl,rfl,rfl,trivial⟩ rfl) (λn j y9 h=>?_)));unfold cT at h;refine sr (jb (bJ rfl) ?_);refine nt (ak (ci h (λh=>?_) (λh=>?_)))
     .refine sk (ak (aj (sr ?_)));obtain⟨c,y,h⟩:=aa h;refine jb (aX (t:=Ti) rfl iE cG y) ?_;refine ja (ap (t:=Ti) rfl cG rfl) ?_;refine aq (nt (ak (sr ?_)));refine mq ?_;refine fl fH ?_;refine lo cG ?_;obtain⟨O,x,h⟩:=aa h;refine jb (eI rfl x) ?_;obtain⟨U,F,h⟩:=aa h;refine jc (av [.tmp 25,.const (.int .i64 (0)),.tmp 28] rfl rfl wK rfl (du k c 0 O U F)) ?_;refine ja (hH rfl) ?_;refine nt (cw h (λh=>?_) (λh=>?_))
      .refine sr (cq (nt (rx (br (bD (br (bD (bC ?_))))))));obtain rfl:=hR _ h;exact ra
      .refine sk (ak (sr ?_));iterate 2 refine mq ?_
       obtain⟨Q,E,h⟩:=aa h;refine jb (av [.tmp 31,.tmp 32] rfl rfl GI rfl (fW k y9.1 c Q E)) ?_;refine nt (cv h (λh=>?_) (λh=>?_))
       .refine sr (cq (nt (rx (br (bD (br (bD (bC ?_))))))));obtain rfl:=hR _ h;exact ra
       .refine sk (ab ?_);iterate 2 refine mq ?_
        obtain⟨l,D,h⟩:=aa h;refine jb (av [.tmp 34,.tmp 35] rfl rfl MK rfl (jI k y9.1 c l D)) ?_;refine aq (aE (aR (tn (ab ?_))));obtain⟨M,u,h⟩:=aa h;refine jb (bA rfl u) ?_;refine mq (nl ?_);exact jz ((),(l,M)) h [0]
     .refine fP (bQ (bQ (c8 (bn ?_))));exact jz ((),y9.1) h [0]
    .refine ab ?_;obtain⟨J,s,h⟩:=aa h;refine jb (bA rfl s) ?_;refine mq (nl ?_);exact jz ((),(x6,J)) h [0]
   .refine xa ?_;exact jz ((),()) h []
  .refine sr (cq (nt (ay ?_)));cases h;exact ra
def eu(k:Nat)(a0:ah):Nat->Int->Option (Except Int Unit)
 |0,_=>none
 |n+1,c=>
  if c < (a0.2.2.2.2.1.length:Int) then((aU a0.2.2.2.2.1 c).bind λj=>
  (iw k a0 j).bind λe=>
  if¬(e=0) then(some (.error e)) else((ck (c+1)).bind λh=>
  eu k a0 n h)) else(some (.ok ()))
def er(k:Nat)(a0:ah):Nat->Int->Option (Except Int Unit)
 |0,_=>none
 |n+1,c=>
  if c < (a0.2.2.2.2.2.length:Int) then((aU a0.2.2.2.2.2 c).bind λj=>
  (fC k a0 j).bind λe=>
  if¬(e=0) then(some (.error e)) else((ck (c+1)).bind λh=>
  er k a0 n h)) else(some (.ok ()))
def lV(k:Nat)(a0:ah):Option Int:=
 (((dj k a0.1 1 5).bind λr4=>
 if¬(r4=true) then(some true) else((dj k a0.2.1 0 3).bind λr5=>
 if¬(r5=true) then(some true) else((dj k a0.2.2.1 0 3).bind λr6=>
 if¬(r6=true) then(some true) else((dj k a0.2.2.2.1 1 3).bind λr7=>
 some (!r7))))):Option (Bool)).bind λx2=>
 if x2=true then(some 1) else(if(a0.2.2.2.2.1.length:Int) < 1 then(some 7) else(if 6 < (a0.2.2.2.2.1.length:Int) then(some 6) else(bE (α:=Unit) (eu k a0 k 0) (some) λ_=>
 if 8 < (a0.2.2.2.2.2.length:Int) then(some 6) else(bE (α:=Unit) (er k a0 k 0) (some) λ_=>
 some 0))))
theorem ww(k:Nat)(a0:ah)(r:Int)(h:lV k a0=some r):
 dx Tryz.prog 71 [.rep au a0] [] (λ_:Unit=>(bI [I r],[])):=by
 unfold lV at h
 replace h:=bg h
 refine dx.of 73 Tryz.func71 rfl Tryz.ntmps71 rfl λS w0=>?_
 refine sr ?_
 refine bx λb1=>?_
 refine cq ?_
 refine nt ?_
 refine ak ?_
 refine aH (Z:=Unit) (α:=Bool) (λz3 x2=>[(1,Pt b1),(31,.eq (.bool x2))]) (λz3 x2=>[.obj b1 26 (.rep au a0)]) h (λK h=>?_) (λz3 x2 h=>?_)
 .
  refine ab (fl fH ?_);refine lo cG ?_;obtain⟨r4,Si,h⟩:=aa h;refine jc (av [.tmp 11,.const (.int .i64 (1)),.const (.int .i64 (5))] rfl rfl wK rfl (du k a0.1 1 5 r4 Si)) ?_;refine ja (hH rfl) ?_;refine mq ?_;refine cD (s:=14) rfl (λhb=>?_) (λhb=>?_)
  .replace h:=eU (wn hb) h;iterate 4 refine gn ?_
   refine pt ?_;refine mq ?_;iterate 4 refine gn ?_
   refine pt ?_;refine mq ?_;iterate 4 refine gn ?_
   refine pt (nl ?_);exact jz ((),true) h [0]
  .replace h:=c6 (pX hb) h;refine ga (aG rfl Ah) ?_;refine lH rfl rfl rfl rfl rfl rfl (ax rfl cG o9 rfl) ⟨rfl,trivial⟩ ?_;obtain⟨r5,zz,h⟩:=aa h;refine gc (av [.tmp 16,.const (.int .i64 (0)),.const (.int .i64 (3))] rfl rfl wK rfl (du k a0.2.1 0 3 r5 zz)) ?_;refine ga (hH rfl) ?_;refine pf ?_;refine mq ?_;refine cD (s:=20) rfl (λhb=>?_) (λhb=>?_)
   .replace h:=eU (wn hb) h;iterate 4 refine gn ?_
    refine pt ?_;refine mq ?_;iterate 4 refine gn ?_
    refine pt (nl ?_);exact jz ((),true) h [0]
   .replace h:=c6 (pX hb) h;refine ga (aG rfl Ag) ?_;refine lH rfl rfl rfl rfl rfl rfl (ax rfl cG o9 rfl) ⟨rfl,trivial⟩ ?_;obtain⟨r6,qt,h⟩:=aa h;refine gc (av [.tmp 22,.const (.int .i64 (0)),.const (.int .i64 (3))] rfl rfl wK rfl (du k a0.2.2.1 0 3 r6 qt)) ?_;refine ga (hH rfl) ?_;refine pf ?_;refine mq ?_;refine cD (s:=26) rfl (λhb=>?_) (λhb=>?_)
    .replace h:=eU (wn hb) h;iterate 4 refine gn ?_
     refine pt (nl ?_);exact jz ((),true) h [0]
    .replace h:=c6 (pX hb) h;refine ga (aG rfl GE) ?_;refine lH rfl rfl rfl rfl rfl rfl (ax rfl cG o9 rfl) ⟨rfl,trivial⟩ ?_;obtain⟨r7,mw,h⟩:=aa h;refine gc (av [.tmp 28,.const (.int .i64 (1)),.const (.int .i64 (3))] rfl rfl wK rfl (du k a0.2.2.2.1 1 3 r7 mw)) ?_;refine ga (hH rfl) ?_;refine pf (nl ?_);exact jz ((), !r7) h [0]
 .
  refine cv h (λh=>?_) (λh=>?_)
  .refine sr (cq (nt (rx ?_)));cases h;exact ra
  .refine sk (ak (sr (fl eE ?_)));refine lo lD ?_;refine ol AA ?_;refine aq (nt (aj (sr ?_)));refine mq ?_;refine jb (bJ rfl) ?_;refine aq (nt ?_);refine ci h (λh=>?_) (λh=>?_)
   .refine sr (cq (nt (ay (bD (bC ?_)))));cases h;exact ra
   .refine sr (mq ?_);refine jb (oL rfl) ?_;refine aq (nt ?_);refine ci h (λh=>?_) (λh=>?_)
    .refine sr (cq (nt (ay (bD (bC ?_)))));cases h;exact ra
    .refine be (aR (tn (dw (Z:=Unit) (α:=Unit) (λz9 x8=>[(1,Pt b1)]) (λz9 x8=>[.obj b1 26 (.rep au a0)]) (λe=>e=r) h (λe h=>Option.some.inj h) (λK hR h=>?_) (λz9 x8 h=>?_))))
     .refine sr (fl eE ?_);refine lo lD ?_;refine ol AA ?_;refine eK rfl ?_;refine nt (aj (aF (λx j=>[(1,Pt b1),(42,.rep (.slice (.slice Tl)) a0.2.2.2.2.1),(43,I (a0.2.2.2.2.1.length:Int)),(44,I j)]) (λx j=>[.obj b1 26 (.rep au a0)]) (eu k a0) k () 0 (λ_=>rfl) h (SE.fin [0] ⟨rfl,rfl,rfl,rfl,trivial⟩ rfl) (λn x j h=>?_)));unfold eu at h;refine sr (jb (bJ rfl) ?_);refine nt (ak (ci h (λh=>?_) (λh=>?_)))
      .refine sk (ak (aj (sr ?_)));obtain⟨Y,J,h⟩:=aa h;refine jb (aX (t:=(.slice Tl)) rfl AA xH J) ?_;refine ja (ap (t:=(.slice Tl)) rfl xH rfl) ?_;refine aq (nt (sr ?_));refine lo iM ?_;refine mq ?_;obtain⟨mc,O,h⟩:=aa h;refine jb (av [.tmp 48,.tmp 49] rfl rfl QE rfl (sf k a0 Y mc O)) ?_;refine aq (nt (sr ?_));refine mq ?_;refine jb (eL rfl) ?_;refine nt (cn h (λh=>?_) (λh=>?_))
       .refine sr (mq ?_);refine aq (nt (ay (br (bD (bC ?_)))));obtain rfl:=hR _ h;exact ra
       .refine be (aR (tn (ab ?_)));obtain⟨X,F,h⟩:=aa h;refine jb (bA rfl F) ?_;refine mq (nl ?_);exact jz ((),X) h [0]
      .refine xa ?_;exact jz ((),()) h [0]
     .refine ak (sr (fl Af ?_));refine lo Lp ?_;refine ol Pn ?_;refine jb (oL rfl) ?_;refine nt (ci h (λh=>?_) (λh=>?_))
      .refine sr (cq (nt (rx ?_)));cases h;exact ra
      .refine sk (dw (Z:=Unit) (α:=Unit) (λu y=>[]) (λu y=>[]) (λe=>e=r) h (λe h=>Option.some.inj h) (λK hR h=>?_) (λu y h=>?_))
       .refine sr (fl Af ?_);refine lo Lp ?_;refine ol Pn ?_;refine eK rfl ?_;refine nt (aj (aF (λl c=>[(1,Pt b1),(60,Rs bN a0.2.2.2.2.2),(61,I (a0.2.2.2.2.2.length:Int)),(62,I c)]) (λl c=>[.obj b1 26 (.rep au a0)]) (er k a0) k () 0 (λ_=>rfl) h (SE.fin [0] ⟨rfl,rfl,rfl,rfl,trivial⟩ rfl) (λn l c h=>?_)));unfold er at h;refine sr (jb (bJ rfl) ?_);refine nt (ak (ci h (λh=>?_) (λh=>?_)))
        .refine sk (ak (aj (sr ?_)));obtain⟨U,E,h⟩:=aa h;refine jb (aX (t:=bN) rfl Pn vS E) ?_;refine ja (ap (t:=bN) rfl vS rfl) ?_;refine aY rfl rfl rfl (bz rfl HL M8) trivial λSj=>?_;refine aS rfl rfl (aO rfl vS rfl rfl rfl) ⟨rfl,rfl,trivial⟩ ?_;refine nt (sr (fr 1 ?_));refine lo iM ?_;refine fr 1 ?_;refine lo vS ?_;obtain⟨gw,M,h⟩:=aa h;refine jb (av [.tmp 66,.tmp 67] rfl rfl QN rfl (pn k a0 U gw M)) ?_;refine aq (nt (sr ?_));refine mq ?_;refine jb (eL rfl) ?_;refine nt (cn h (λh=>?_) (λh=>?_))
         .refine sr (mq ?_);refine aq (nt (ay (br (bD (bC ?_)))));obtain rfl:=hR _ h;exact ra
         .refine be (aR (tn (ab ?_)));obtain⟨Q,D,h⟩:=aa h;refine jb (bA rfl D) ?_;refine mq (nl ?_);exact jz ((),Q) h [1]
        .refine xa ?_;exact jz ((),()) h []
       .refine sr (cq (nt (ay ?_)));cases h;exact ra
def co(k:Nat)(a0:ah)(a1:Int):Nat->((List Int)×Int)->Option (List Int)
 |0,_=>none
 |n+1,y5=>
  if y5.2 < 5 then((((cO (0≤y5.2/\y5.2 < 5)).bind λ_=>
  (ee k a1 y5.2).bind λe=>
  if e=true then((cO (0≤y5.2/\y5.2 < 5)).bind λ_=>
  some (List.set (List.set y5.1 (Int.toNat y5.2) (-1:Int)) (Int.toNat y5.2) a0.2.1)) else(some (List.set y5.1 (Int.toNat y5.2) (-1:Int)))):Option ((List Int))).bind λx7=>
  (ck (y5.2+1)).bind λc=>
  co k a0 a1 n (x7,c)) else(some y5.1)
def dX(k:Nat)(a0:ah)(a1:Int):Option (List Int):=
 ((co k a0 a1 k ([0,0,0,0,0],0)):Option ((List Int))).bind λx3=>
 some x3
theorem pi{M:Md Tryz.prog}{bm:Nat}{c0 c1 c2 c3 c4 c5:Value}(hK:Kn M bm 0 [c0,c1,c2,c3,c4,c5])(k:Nat)(a0:ah)(a1:Int)(r:(List Int))(h:dX k a0 a1=some r):
 bX M 78 [.rep (.mo (Pv bm) [c0,c1,c2,c3,c4,c5] au) a0,.eq (.int .u8 a1)] [] (λ_:Unit=>(bI [.rep Tr r],[])):=by
 unfold dX at h
 replace h:=bg h
 refine bX.of 24 Tryz.func78 rfl Tryz.ntmps78 rfl λS w0=>?_
 refine sr ?_
 refine aY rfl rfl rfl (bz rfl HJ JJ) trivial λb1=>?_
 refine nt ?_
 refine sr ?_
 refine aY rfl rfl rfl (bz rfl HJ JJ) trivial λb2=>?_
 refine nt ?_
 refine aH (Z:=Unit) (α:=(List Int)) (λz4 x3=>[(4,Pt b1),(5,Pt b2)]) (λz4 x3=>[.obj b1 78 (.rep Tr [0,0,0,0,0]),.obj b2 78 (.rep Tr x3)]) h (λK h=>?_) (λz4 x3 h=>?_)
 .
  refine sr (eK rfl ?_);refine nt (aj (aF (λz6 y5=>[(0,.rep (.mo (Pv bm) [c0,c1,c2,c3,c4,c5] au) a0),(1,.eq (.int .u8 a1)),(4,Pt b1),(5,Pt b2),(7,I y5.2)]) (λz6 y5=>[.obj b1 78 (.rep Tr [0,0,0,0,0]),.obj b2 78 (.rep Tr y5.1)]) (co k a0 a1) k () ([0,0,0,0,0],0) (λ_=>rfl) h (SE.fin [1,0] ⟨rfl,rfl,rfl,rfl,rfl,trivial⟩ rfl) (λn z6 y5 h=>?_)));unfold co at h;refine sr (jb (bJ rfl) ?_);refine nt (ak (ci h (λh=>?_) (λh=>?_)))
  .refine sk (aH (Z:=Unit) (α:=(List Int)) (λz8 x7=>[(0,.rep (.mo (Pv bm) [c0,c1,c2,c3,c4,c5] au) a0),(1,.eq (.int .u8 a1)),(4,Pt b1),(5,Pt b2),(7,I y5.2)]) (λz8 x7=>[.obj b1 78 (.rep Tr [0,0,0,0,0]),.obj b2 78 (.rep Tr x7)]) h (λK h=>?_) (λz8 x7 h=>?_))
   .refine aj (sr (mq ?_));refine aq (nt (sr ?_));refine mq ?_;obtain⟨u9,e,h⟩:=aa h;refine jb (dB rfl Az cG (am e).1 (am e).2) ?_;refine fr 1 ?_;refine aS rfl rfl (fU (t:=Ti) (off:=0) (i:=y5.2) (N:=5) rfl cG .int rfl rfl rfl rfl (am e).1 (am e).2 rfl) ⟨rfl,rfl,trivial⟩ ?_;refine nt (sr ?_);iterate 2 refine mq ?_
    obtain⟨u,l,h⟩:=aa h;refine jb (av [.tmp 12,.tmp 13] rfl rfl GI rfl (fW k a1 y5.2 u l)) ?_;refine nt (cv h (λh=>?_) (λh=>?_))
    .refine ab ?_;iterate 2 refine mq ?_
     refine ja (kD rfl) ?_;refine ja (fV rfl gi) ?_;refine ja (gY 1 false rfl Ah rfl rfl) ?_;refine ja (iO (t:=Ti) rfl cG (hK.sub 1 1 rfl (le_of_ble_eq_true rfl)) rfl rfl) ?_;obtain⟨x,c,h⟩:=aa h;refine jb (dB rfl Az cG (am c).1 (am c).2) ?_;refine aS rfl rfl (fU (t:=Ti) (off:=0) (i:=y5.2) (N:=5) rfl cG .int rfl rfl rfl rfl (am c).1 (am c).2 rfl) ⟨rfl,rfl,trivial⟩ ?_;refine aE (bn ?_);exact jz ((),List.set (List.set y5.1 (Int.toNat y5.2) (-1:Int)) (Int.toNat y5.2) a0.2.1) h [1,0]
    .refine be (bn ?_);exact jz ((),List.set y5.1 (Int.toNat y5.2) (-1:Int)) h [1,0]
   .refine ab ?_;obtain⟨s,j,h⟩:=aa h;refine jb (bA rfl j) ?_;refine mq (nl ?_);exact jz ((),(x7,s)) h [0,1]
  .refine xa ?_;exact jz ((),y5.1) h [0,1]
 .
  refine sr (fr 1 ?_);refine lo iJ ?_;refine fr 1 ?_;refine aS rfl rfl (aO rfl iJ rfl rfl rfl) ⟨rfl,rfl,trivial⟩ ?_;refine nt (ay ?_);obtain rfl:=Option.some.inj h;exact aM () [.rep Tr x3] 0 ⟨⟨_,_,_,_,_,rfl,(.head _),iJ,(uc),rfl⟩,trivial⟩ rfl
def cX(k:Nat)(a0:(List Int))(a1:Int):Nat->Int->Option (Except Int Unit)
 |0,_=>none
 |n+1,y3=>
  if y3 < (a0.length:Int) then((aU a0 y3).bind λx5=>
  if a1=x5 then(some (.error y3)) else((ck (y3+1)).bind λx6=>
  cX k a0 a1 n x6)) else(some (.ok ()))
def fF(k:Nat)(a0:(List Int))(a1:Int):Option Int:=
 bE (α:=Unit) (cX k a0 a1 k 0) (some) λ_=>
 some (-1:Int)
theorem lO(k:Nat)(a0:(List Int))(a1:Int)(r:Int)(h:fF k a0 a1=some r):
 dx Tryz.prog 80 [.rep Tl a0,I a1] [] (λ_:Unit=>(bI [I r],[])):=by
 unfold fF at h
 replace h:=bg h
 refine dx.of 19 Tryz.func80 rfl Tryz.ntmps80 rfl λS w0=>?_
 refine sr ?_
 refine cq ?_
 refine nt ?_
 refine dw (Z:=Unit) (α:=Unit) (λz2 x1=>[]) (λz2 x1=>[]) (λe=>e=r) h (λe h=>Option.some.inj h) (λK hR h=>?_) (λz2 x1 h=>?_)
 .
  refine sr (mq ?_);refine ol iE ?_;refine eK rfl ?_;refine nt (aj (aF (λz4 y3=>[(0,.rep Tl a0),(1,I a1),(7,I (a0.length:Int)),(8,I y3)]) (λz4 y3=>[]) (cX k a0 a1) k () 0 (λ_=>rfl) h (SE.fin [] ⟨rfl,rfl,rfl,rfl,trivial⟩ rfl) (λn z4 y3 h=>?_)));unfold cX at h;refine sr (jb (bJ rfl) ?_);refine nt (ak (ci h (λh=>?_) (λh=>?_)))
  .refine sk (ak (aj (sr (mq ?_))));refine aq (nt (sr ?_));iterate 3 refine mq ?_
   obtain⟨x5,j,h⟩:=aa h;refine jb (aX (t:=Ti) rfl iE cG j) ?_;refine ja (ap (t:=Ti) rfl cG rfl) ?_;refine jb (jk rfl) ?_;refine nt (ci h (λh=>?_) (λh=>?_))
   .refine sr (mq ?_);refine aq (nt (ay (br (bD (bC ?_)))));obtain rfl:=hR _ h;exact ra
   .refine be (aR (tn (ab ?_)));obtain⟨x6,c,h⟩:=aa h;refine jb (bA rfl c) ?_;refine mq (nl ?_);exact jz ((),x6) h []
  .refine xa ?_;exact jz ((),()) h []
 .
  refine sr (cq (nt (ay ?_)));cases h;exact ra
def kl(k:Nat)(a0:Int):Option Bool:=
 some (!decide (a0=a0))
theorem qs(k:Nat)(a0:Int)(r:Bool)(h:kl k a0=some r):
 dx Tryz.prog 153 [I a0] [] (λ_:Unit=>(bI [.eq (.bool r)],[])):=by
 unfold kl at h
 replace h:=bg h
 refine dx.of 6 Tryz.func153 rfl Tryz.ntmps153 rfl λS w0=>?_
 refine sr ?_
 refine cq ?_
 refine nt ?_
 refine sr ?_
 iterate 2 refine mq ?_
 refine jb (eL rfl) ?_
 refine aq ?_
 refine nt ?_
 refine ay ?_
 cases h
 exact ra
def nJ(k:Nat)(a0:Int)(a1:Int):Option Bool:=
 (((kl k a0).bind λr3=>
 if r3=true then((kl k a1).bind λr4=>
 if¬(r4=true) then(some true) else(some (decide (a0 < a1)))) else(some (decide (a0 < a1)))):Option (Bool)).bind λx1=>
 some x1
theorem yF(k:Nat)(a0:Int)(a1:Int)(r:Bool)(h:nJ k a0 a1=some r):
 dx Tryz.prog 143 [I a0,I a1] [] (λ_:Unit=>(bI [.eq (.bool r)],[])):=by
 unfold nJ at h
 replace h:=bg h
 refine dx.of 17 Tryz.func143 rfl Tryz.ntmps143 rfl λS w0=>?_
 refine sr ?_
 refine cq ?_
 refine nt ?_
 refine aH (Z:=Unit) (α:=Bool) (λz2 x1=>[(4,.eq (.bool x1))]) (λz2 x1=>[]) h (λK h=>?_) (λz2 x1 h=>?_)
 .
  refine ab (mq ?_);obtain⟨r3,e,h⟩:=aa h;refine ja (av [.tmp 5] rfl rfl KN rfl (qs k a0 r3 e)) ?_;refine mq ?_;refine cD (s:=7) rfl (λhb=>?_) (λhb=>?_)
  .replace h:=eU (Ld hb) h;refine gm ?_;obtain⟨r4,c,h⟩:=aa h;refine ga (av [.tmp 8] rfl rfl KN rfl (qs k a1 r4 c)) ?_;refine ga (hH rfl) ?_;refine pt ?_;refine mq ?_;refine cD (s:=12) rfl (λhb=>?_) (λhb=>?_)
   .replace h:=eU (wn hb) h;iterate 3 refine gn ?_
    refine pt ?_;refine aq (nl ?_);exact jz ((),true) h []
   .replace h:=c6 (pX hb) h;refine gm ?_;refine gm ?_;refine gb (bJ rfl) ?_;refine pf ?_;refine aq (nl ?_);exact jz ((),decide (a0 < a1)) h []
  .replace h:=c6 (Le hb) h;iterate 3 refine gn ?_
   refine pf ?_;refine mq ?_;refine gm ?_;refine gm ?_;refine gb (bJ rfl) ?_;refine pf ?_;refine aq (nl ?_);exact jz ((),decide (a0 < a1)) h []
 .
  refine ay ?_;cases h;exact ra
def bq(k:Nat)(a1:Int):Nat->((List Int)×Int)->Option (List Int)
 |0,_=>none
 |n+1,y6=>
  ((if a1 < y6.2 then((aU y6.1 y6.2).bind λu=>
  (ck (y6.2 - 1)).bind λs=>
  (aU y6.1 s).bind λr=>
  (nJ k u r).bind λx=>
  some x) else(some false)):Option (Bool)).bind λx8=>
  if x8=true then((ck (y6.2 - 1)).bind λe=>
  (ck (y6.2 - 1)).bind λl=>
  (aU y6.1 l).bind λc=>
  (aU y6.1 y6.2).bind λj=>
  (aU y6.1 y6.2).bind λD=>
  (aU (List.set y6.1 (Int.toNat y6.2) c) e).bind λy=>
  (ck (y6.2 - 1)).bind λh=>
  bq k a1 n (List.set (List.set y6.1 (Int.toNat y6.2) c) (Int.toNat e) j,h)) else(some y6.1)
def aW(k:Nat)(a1:Int)(a2:Int):Nat->((List Int)×Int)->Option (List Int)
 |0,_=>none
 |n+1,y2=>
  if y2.2 < a2 then(((bq k a1 k (y2.1,y2.2)):Option ((List Int))).bind λx4=>
  (ck (y2.2+1)).bind λc=>
  aW k a1 a2 n (x4,c)) else(some y2.1)
def bM(k:Nat)(a0:(List Int))(a1:Int)(a2:Int):Option (List Int):=
 (ck (a1+1)).bind λx1=>
 aW k a1 a2 k (a0,x1)
theorem iK(k:Nat)(a0:(List Int))(c:Value)(a1:Int)(a2:Int)(r:(List Int))(h:bM k a0 a1 a2=some r):
 dx Tryz.prog 137 [.eq c,I a1,I a2] [.sl c 3 Ti a0] (λ_:Unit=>(bI [],[.sl c 3 Ti r])):=by
 unfold bM at h
 replace h:=bg h
 refine dx.of 49 Tryz.func137 rfl Tryz.ntmps137 rfl λS w0=>?_
 refine sr ?_
 refine mq ?_
 obtain⟨x1,SN,h⟩:=aa h
 refine jb (bA rfl SN) ?_
 refine aq ?_
 refine nt ?_
 refine aj ?_
 refine aF (λz3 y2=>[(0,.eq c),(1,I a1),(2,I a2),(6,I y2.2)]) (λz3 y2=>[.sl c 3 Ti y2.1]) (aW k a1 a2) k () (a0,x1) (λ_=>rfl) h (SE.fin [0] ⟨rfl,rfl,rfl,rfl,trivial⟩ rfl) (λn z3 y2 h=>?_)
 unfold aW at h
 refine ak ?_
 refine sr ?_
 iterate 2 refine mq ?_
 refine jb (bJ rfl) ?_
 refine nt ?_
 refine ci h (λh=>?_) (λh=>?_)
 .
  refine sk (aH (Z:=Unit) (α:=(List Int)) (λz5 x4=>[(0,.eq c),(1,I a1),(2,I a2),(6,I y2.2)]) (λz5 x4=>[.sl c 3 Ti x4]) h (λK h=>?_) (λz5 x4 h=>?_))
  .refine aj (sr (mq ?_));refine aq (nt (aj ?_));refine aF (λz7 y6=>[(0,.eq c),(1,I a1),(2,I a2),(6,I y2.2),(7,I y6.2)]) (λz7 y6=>[.sl c 3 Ti y6.1]) (bq k a1) k () (y2.1,y2.2) (λ_=>rfl) h (SE.fin [0] ⟨rfl,rfl,rfl,rfl,rfl,trivial⟩ rfl) (λn z7 y6 h=>?_);unfold bq at h;refine ak (aH (Z:=Unit) (α:=Bool) (λz9 x8=>[(0,.eq c),(1,I a1),(2,I a2),(6,I y2.2),(7,I y6.2),(30,.eq (.bool x8))]) (λz9 x8=>[.sl c 3 Ti y6.1]) h (λK h=>?_) (λz9 x8 h=>?_))
   .refine cP ?_;refine dm ?_;refine dm ?_;refine db (oL rfl) ?_;refine xf rfl rfl rfl (bK rfl) ⟨rfl,trivial⟩ (λhb=>?_) (λhb=>?_)
    .replace h:=eU (uF hb) h;refine dG rfl rfl rfl rfl rfl (bK rfl) ⟨rfl,rfl,trivial⟩ ?_;refine dG rfl rfl rfl rfl rfl (bK rfl) ⟨rfl,rfl,trivial⟩ ?_;obtain⟨SA,x,h⟩:=aa h;refine jZ 0 rfl rfl rfl rfl rfl rfl (cx (t:=Ti) rfl iE cG x) ⟨rfl,rfl,rfl,trivial⟩ ?_;refine jZ 0 rfl rfl rfl rfl rfl rfl (f9 (i:=Int.toNat y6.2) (off:=0) rfl cG (λ_=>rfl) rfl (dp x).2.2 rfl) ⟨rfl,rfl,trivial⟩ ?_;refine dG rfl rfl rfl rfl rfl (bK rfl) ⟨rfl,rfl,trivial⟩ ?_;refine dG rfl rfl rfl rfl rfl (bK rfl) ⟨rfl,rfl,trivial⟩ ?_;obtain⟨Sz,qt,h⟩:=aa h;refine dG rfl rfl rfl rfl rfl (eI rfl qt) ⟨rfl,rfl,rfl,trivial⟩ ?_;obtain⟨Sr,u,h⟩:=aa h;refine jZ 0 rfl rfl rfl rfl rfl rfl (cx (t:=Ti) rfl iE cG u) ⟨rfl,rfl,rfl,trivial⟩ ?_;refine jZ 0 rfl rfl rfl rfl rfl rfl (f9 (i:=Int.toNat Sz) (off:=0) rfl cG (λ_=>rfl) rfl (dp u).2.2 rfl) ⟨rfl,rfl,trivial⟩ ?_;refine df ew ?_;obtain⟨F,zz,h⟩:=aa h;refine gb (av [.tmp 23,.tmp 28] rfl rfl O4 rfl (yF k SA Sr F zz)) ?_;refine pt (nl ?_);exact jz ((),F) h [0]
    .replace h:=c6 (uG hb) h;iterate 9 refine dg ?_
     refine df ew ?_;refine gn ?_;refine pf (nl ?_);exact jz ((),false) h [0]
   .refine cv h (λh=>?_) (λh=>?_)
    .refine sk (ak (aj (qC ?_)));refine cu rfl rfl rfl (bK rfl) ⟨rfl,trivial⟩ ?_;refine cu rfl rfl rfl (bK rfl) ⟨rfl,trivial⟩ ?_;refine cu rfl rfl rfl (bK rfl) ⟨rfl,trivial⟩ ?_;refine cu rfl rfl rfl (bK rfl) ⟨rfl,trivial⟩ ?_;obtain⟨y,mw,h⟩:=aa h;refine cu rfl rfl rfl (eI rfl mw) ⟨rfl,rfl,trivial⟩ ?_;refine cu rfl rfl rfl (bK rfl) ⟨rfl,trivial⟩ ?_;refine cu rfl rfl rfl (bK rfl) ⟨rfl,trivial⟩ ?_;obtain⟨Sl,mc,h⟩:=aa h;refine cu rfl rfl rfl (eI rfl mc) ⟨rfl,rfl,trivial⟩ ?_;obtain⟨E,s,h⟩:=aa h;refine iI 0 rfl rfl rfl rfl (cx (t:=Ti) rfl iE cG s) ⟨rfl,rfl,trivial⟩ ?_;refine iI 0 rfl rfl rfl rfl (f9 (i:=Int.toNat Sl) (off:=0) rfl cG (λ_=>rfl) rfl (dp s).2.2 rfl) ⟨rfl,trivial⟩ ?_;refine cu rfl rfl rfl (bK rfl) ⟨rfl,trivial⟩ ?_;refine cu rfl rfl rfl (bK rfl) ⟨rfl,trivial⟩ ?_;obtain⟨D,l,h⟩:=aa h;refine iI 0 rfl rfl rfl rfl (cx (t:=Ti) rfl iE cG l) ⟨rfl,rfl,trivial⟩ ?_;refine iI 0 rfl rfl rfl rfl (f9 (i:=Int.toNat y6.2) (off:=0) rfl cG (λ_=>rfl) rfl (dp l).2.2 rfl) ⟨rfl,trivial⟩ ?_;obtain⟨SY,j,h⟩:=aa h;refine iI 0 rfl rfl rfl rfl (cx (t:=Ti) rfl iE cG j) ⟨rfl,rfl,trivial⟩ ?_;refine xe 15 [true,true,false,false,false,true,true,true,true,true,true,true,true,true,true] [48] [] [] rfl (by kernel_rfl) (by kernel_rfl) (by kernel_rfl) ew (λvs hv hB=>?_);obtain⟨w0,Tv,rfl,SL⟩:=aD hv;obtain⟨w1,Tu,rfl,SK⟩:=aD SL;obtain⟨w2,Tt,rfl,SJ⟩:=aD SK;obtain⟨w3,To,rfl,SI⟩:=aD SJ;obtain⟨w4,Tn,rfl,SH⟩:=aD SI;obtain⟨w5,Tm,rfl,SG⟩:=aD SH;obtain⟨w6,Tj,rfl,SD⟩:=aD SG;obtain⟨w7,Tf,rfl,SC⟩:=aD SD;obtain⟨w8,Td,rfl,SB⟩:=aD SC;obtain⟨w9,SV,rfl,X⟩:=aD SB;obtain⟨Ta,SU,rfl,U⟩:=aD X;obtain⟨S9,SS,rfl,Q⟩:=aD U;obtain⟨S7,SR,rfl,O⟩:=aD Q;obtain⟨S5,SQ,rfl,M⟩:=aD O;obtain⟨SZ,SO,rfl,J⟩:=aD M;obtain rfl:=sJ J;refine⟨[0],[.sl c 3 Ti y6.1],by kernel_rfl,by decide,?_⟩;refine rM rfl rfl (fS (i:=Int.toNat y6.2) rfl cG rfl (mA j) rfl .int rfl) ⟨rfl,rfl,trivial⟩ (by kernel_rfl) ?_;obtain⟨SX,e,h⟩:=aa h;refine AG rfl rfl rfl rfl (cx (t:=Ti) rfl iE cG e) ⟨rfl,rfl,trivial⟩ (by kernel_rfl) ?_;refine rM rfl rfl (fS (i:=Int.toNat y) rfl cG rfl (mA e) rfl .int rfl) ⟨rfl,rfl,trivial⟩ (by kernel_rfl) ?_;refine xb ?_;refine ce (SE.fin (Γ':=[(0,.eq c),(1,I a1),(2,I a2),(6,I y2.2),(7,I y6.2)]) (Δ':=[.sl c 3 Ti (List.set (List.set y6.1 (Int.toNat y6.2) E) (Int.toNat y) D)]) [0] ⟨rfl,rfl,rfl,rfl,rfl,trivial⟩ rfl) ?_;refine aR (tn (ab (mq ?_)));obtain⟨Sj,gw,h⟩:=aa h;refine jb (eI rfl gw) ?_;refine aq (nl ?_);exact jz ((),(List.set (List.set y6.1 (Int.toNat y6.2) E) (Int.toNat y) D,Sj)) h [0]
    .refine fP (bQ (bQ (c8 (bn ?_))));exact jz ((),y6.1) h [0]
  .refine ab (mq ?_);obtain⟨Si,Y,h⟩:=aa h;refine jb (bA rfl Y) ?_;refine aq (nl ?_);exact jz ((),(x4,Si)) h [0]
 .
  refine fP (bQ (bQ (c8 (jB ?_))));cases h;exact aM () [] 1 trivial rfl
def jK(k:Nat)(a0:Int):Option Int:=
 ((if 4294967296≤a0 then(some (gB .u64 a0 32,32)) else(some (a0,0))):Option (Int×Int)).bind λx1=>
 ((if 65536≤x1.1 then((ck (x1.2+16)).bind λx5=>
 some (gB .u64 x1.1 16,x5)) else(some (x1.1,x1.2))):Option (Int×Int)).bind λx3=>
 ((if 256≤x3.1 then((ck (x3.2+8)).bind λx8=>
 some (gB .u64 x3.1 8,x8)) else(some (x3.1,x3.2))):Option (Int×Int)).bind λx6=>
 (Ab I8 (IntKind.u8.wrap x6.1)).bind λx9=>
 (ck (x9.toNat:Int)).bind λe=>
 (ck (x6.2+e)).bind λc=>
 some c
theorem px(k:Nat)(a0:Int)(r:Int)(h:jK k a0=some r):
 dx Tryz.prog 147 [.eq (.int .u64 a0)] [] (λ_:Unit=>(bI [I r],[])):=by
 unfold jK at h
 replace h:=bg h
 refine dx.of 25 Tryz.func147 rfl Tryz.ntmps147 rfl λS w0=>?_
 refine sr ?_
 refine cq ?_
 refine nt ?_
 refine aH (Z:=Unit) (α:=Int×Int) (λz2 x1=>[(0,.eq (.int .u64 x1.1)),(2,I x1.2)]) (λz2 x1=>[]) h (λK h=>?_) (λz2 x1 h=>?_)
 .
  refine sr (mq ?_);refine jb (jj rfl) ?_;refine nt (ci h (λh=>?_) (λh=>?_))
  .refine sr (mq ?_);refine bT rfl (te rfl (by decide)) ⟨rfl,rfl,trivial⟩ ?_;refine aq (nt (ab ?_));refine cq (nl ?_);exact jz ((),(gB .u64 a0 32,32)) h []
  .refine be (an ?_);exact jz ((),(a0,0)) h []
 .
  refine aH (Z:=Unit) (α:=Int×Int) (λz4 x3=>[(0,.eq (.int .u64 x3.1)),(2,I x3.2)]) (λz4 x3=>[]) h (λK h=>?_) (λz4 x3 h=>?_)
  .refine sr (mq ?_);refine jb (jj rfl) ?_;refine nt (ci h (λh=>?_) (λh=>?_))
   .refine sr (mq ?_);refine bT rfl (te rfl (by decide)) ⟨rfl,rfl,trivial⟩ ?_;refine aq (nt (ab ?_));refine mq ?_;obtain⟨x5,n,h⟩:=aa h;refine jb (bA rfl n) ?_;refine aq (nl ?_);exact jz ((),(gB .u64 x1.1 16,x5)) h []
   .refine be (an ?_);exact jz ((),(x1.1,x1.2)) h []
  .refine aH (Z:=Unit) (α:=Int×Int) (λz7 x6=>[(0,.eq (.int .u64 x6.1)),(2,I x6.2)]) (λz7 x6=>[]) h (λK h=>?_) (λz7 x6 h=>?_)
   .refine sr (mq ?_);refine jb (jj rfl) ?_;refine nt (ci h (λh=>?_) (λh=>?_))
    .refine sr (mq ?_);refine bT rfl (te rfl (by decide)) ⟨rfl,rfl,trivial⟩ ?_;refine aq (nt (ab ?_));refine mq ?_;obtain⟨x8,l,h⟩:=aa h;refine jb (bA rfl l) ?_;refine aq (nl ?_);exact jz ((),(gB .u64 x3.1 8,x8)) h []
    .refine be (an ?_);exact jz ((),(x3.1,x3.2)) h []
   .refine sr ?_;iterate 2 refine mq ?_
    refine ja (qR rfl PY U5) ?_;obtain⟨x9,j,h⟩:=aa h;refine ja (xU rfl U9 j) ?_;obtain⟨u,e,h⟩:=aa h;refine ja (xW rfl U5 U3 e) ?_;obtain⟨s,c,h⟩:=aa h;refine jb (bA rfl c) ?_;refine aq (nt (ay ?_));cases h;exact ra
def ot(k:Nat)(a0:Int):Option Int:=
 (jK k a0).bind λr1=>
 some r1
theorem As(k:Nat)(a0:Int)(r:Int)(h:ot k a0=some r):
 dx Tryz.prog 136 [.eq (.int .u64 a0)] [] (λ_:Unit=>(bI [I r],[])):=by
 unfold ot at h
 replace h:=bg h
 refine dx.of 8 Tryz.func136 rfl Tryz.ntmps136 rfl λS w0=>?_
 refine sr ?_
 refine cq ?_
 refine nt ?_
 refine ak ?_
 refine Hv (λhb=>(by cases hb)) (λhb=>?_)
 refine sk ?_
 refine sr ?_
 refine mq ?_
 obtain⟨r1,c,h⟩:=aa h
 have e:=px k a0 r1 c
 refine ja (av [.tmp 6] rfl rfl O3 rfl e) ?_
 refine aq ?_
 refine nt ?_
 refine ay ?_
 cases h
 exact ra
def cf(k:Nat)(a0:(List Int))(a1:Int)(a2:Int)(a3:Int):Nat->Unit->Option (List Int)
 |0,_=>none
 |n+1,y1=>
  (ck (a2 - a1)).bind λx3=>
  if x3≤12 then((bM k a0 a1 a2).bind λr4=>
  some r4) else(if a3=0 then(none) else(none))
def cL(k:Nat)(a0:(List Int))(a1:Int)(a2:Int)(a3:Int):Option (List Int):=
 cf k a0 a1 a2 a3 k ()
theorem kX(k:Nat)(a0:(List Int))(c:Value)(a1:Int)(a2:Int)(a3:Int)(r:(List Int))(h:cL k a0 a1 a2 a3=some r):
 dx Tryz.prog 135 [.eq c,I a1,I a2,I a3] [.sl c 3 Ti a0] (λ_:Unit=>(bI [],[.sl c 3 Ti r])):=by
 unfold cL at h
 replace h:=bg h
 refine dx.of 134 Tryz.func135 rfl Tryz.ntmps135 rfl λS w0=>?_
 refine sr ?_
 refine cq ?_
 refine nt ?_
 refine sr ?_
 refine cq ?_
 refine nt ?_
 refine aj ?_
 refine aF (λz2 y1=>[(0,.eq c),(1,I a1),(2,I a2),(3,I a3),(8,.eq (.bool true)),(9,.eq (.bool true))]) (λz2 y1=>[.sl c 3 Ti a0]) (cf k a0 a1 a2 a3) k () () (λ_=>rfl) h (SE.fin [0] ⟨rfl,rfl,rfl,rfl,rfl,rfl,trivial⟩ rfl) (λn z2 y1 h=>?_)
 unfold cf at h
 refine aj ?_
 refine sr ?_
 iterate 2 refine mq ?_
 obtain⟨x3,e,h⟩:=aa h
 refine jb (eI rfl e) ?_
 refine aq ?_
 refine nt ?_
 refine ak ?_
 refine sr ?_
 refine mq ?_
 refine jb (AY rfl) ?_
 refine nt ?_
 refine ci h (λh=>?_) (λh=>?_)
 .
  refine sr ?_;iterate 3 refine mq ?_
  obtain⟨r4,j,h⟩:=aa h;refine kc (av [.tmp 24,.tmp 25,.tmp 26] rfl rfl O5 rfl (iK k a0 c a1 a2 r4 j)) ?_;refine nt (rx (bD (bC (bD ?_))));cases h;exact aM () [] 1 trivial rfl
 .
  refine sk (ak (sr (mq ?_)));refine jb (jk rfl) ?_;refine nt (ci h (λh=>?_) (λh=>?_))
  .cases h
  .cases h
def ff(k:Nat)(a0:(List Int)):Option (List Int):=
 (ot k (IntKind.u64.wrap (a0.length:Int))).bind λr1=>
 (cL k a0 0 (a0.length:Int) r1).bind λr2=>
 some r2
theorem sa(k:Nat)(a0:(List Int))(c:Value)(r:(List Int))(h:ff k a0=some r):
 dx Tryz.prog 122 [.eq c] [.sl c 3 Ti a0] (λ_:Unit=>(bI [],[.sl c 3 Ti r])):=by
 unfold ff at h
 replace h:=bg h
 refine dx.of 11 Tryz.func122 rfl Tryz.ntmps122 rfl λS w0=>?_
 refine sr ?_
 refine mq ?_
 refine ka (lR rfl rfl iE) ?_
 refine aq ?_
 refine nt ?_
 refine ab ?_
 iterate 3 refine mq ?_
 refine ja (qR rfl U3 Ri) ?_
 obtain⟨r1,j,h⟩:=aa h
 have n:=As k (IntKind.u64.wrap (a0.length:Int)) r1 j
 refine ja (av [.tmp 8] rfl rfl O6 rfl n) ?_
 obtain⟨r2,e,h⟩:=aa h
 have l:=kX k a0 c 0 (a0.length:Int) r1 r2 e
 refine lG rfl rfl rfl (av [.tmp 5,.const (.int .i64 (0)),.tmp 6,.tmp 9] rfl rfl O7 rfl l) ⟨rfl,rfl,rfl,rfl,trivial⟩ ?_
 refine aE ?_
 refine jB ?_
 cases h
 exact aM () [] 1 trivial rfl
def cp(k:Nat)(a1:Int)(x3:(List (List Int))):Nat->Int->Option (Except (Int ⊕ (List Int)) Unit)
 |0,_=>none
 |n+1,y4=>
  if y4 < (x3.length:Int) then((aU x3 y4).bind λx6=>
  (fF k x6 a1).bind λr7=>
  if 0≤r7 then(((if 0 < r7 then((ck (r7 - 1)).bind λs=>
  (aU x6 s).bind λe=>
  (cO (cE (length ([]:(List Int))+length [e]))).bind λ_=>
  some (([]:(List Int))++[e])) else(some ([]:(List Int)))):Option ((List Int))).bind λx8=>
  (((ck (r7+1)).bind λl=>
  if l < (x6.length:Int) then((ck (r7+1)).bind λj=>
  (aU x6 j).bind λc=>
  (cO (cE (length x8+length [c]))).bind λ_=>
  some (x8++[c])) else(some x8)):Option ((List Int))).bind λr=>
  (ff k r).bind λu=>
  some (.error (Sum.inr u:(Int ⊕ (List Int))))) else((ck (y4+1)).bind λh=>
  cp k a1 x3 n h)) else(some (.ok ()))
def dH(k:Nat):Nat->ah->Int->Int->Option ((Int ⊕ (List Int)))
 |0,_,_,_=>none
 |m0+1,a0,a1,a2=>
  bE (α:=Unit) ((aU a0.2.2.2.2.1 a2).bind λx3=>
  cp k a1 x3 k 0) (some) λ_=>
  ((if 0 < a2 then((ck (a2 - 1)).bind λh=>
  ((dH k m0) a0 a1 h).bind λc=>
  if Ir c=true then((ck (1+(N6 c))).bind λe=>
  some e) else(some 1)) else(some 1)):Option (Int)).bind λj=>
  some (Sum.inl j:(Int ⊕ (List Int)))
theorem kH{M:Md Tryz.prog}{bm:Nat}{c0 c1 c2 c3 c4 c5:Value}(hK:Kn M bm 0 [c0,c1,c2,c3,c4,c5])(k:Nat):
 ∀(n:Nat) (a0:ah) (a1:Int) (a2:Int) (r:(Int ⊕ (List Int))),dH k n a0 a1 a2=some r->bX M 99 [.rep (.mo (Pv bm) [c0,c1,c2,c3,c4,c5] au) a0,I a1,I a2] ([]) (λ_:Unit=>(bI [.rep (.pl 158 160 Tl) r],[])):=by
 intro n
 induction n with
 |zero=>intro a0 a1 a2 r h;cases h
 |succ m0 ih=>
  intro a0 a1 a2 r h;rw [dH] at h;replace h:=bg h;refine bX.of 80 Tryz.func99 rfl Tryz.ntmps99 rfl λS w0=>?_;refine sr (cq (nt ?_));refine dw (Z:=Unit) (α:=Unit) (λz2 x1=>[(0,.rep (.mo (Pv bm) [c0,c1,c2,c3,c4,c5] au) a0),(1,I a1),(2,I a2)]) (λz2 x1=>[]) (λe=>e=r) h (λe h=>Option.some.inj h) (λK hR h=>?_) (λz2 x1 h=>?_)
  .refine sr (mq ?_);refine ja (kD rfl) ?_;refine ja (fV rfl gi) ?_;refine ja (gY 1 false rfl eE rfl rfl) ?_;refine ja (iO (t:=(.slice (.slice Tl))) rfl lD (hK.sub 4 1 rfl (le_of_ble_eq_true rfl)) rfl rfl) ?_;refine mq ?_;obtain⟨x3,SA,h⟩:=aa h;refine jb (aX (t:=(.slice Tl)) rfl AA xH SA) ?_;refine ja (ap (t:=(.slice Tl)) rfl xH rfl) ?_;refine ol rW ?_;refine eK rfl ?_;refine nt (aj (aF (λz5 y4=>[(0,.rep (.mo (Pv bm) [c0,c1,c2,c3,c4,c5] au) a0),(1,I a1),(2,I a2),(21,.rep (.slice Tl) x3),(22,I (x3.length:Int)),(23,I y4)]) (λz5 y4=>[]) (cp k a1 x3) k () 0 (λ_=>rfl) h (SE.fin [] ⟨rfl,rfl,rfl,rfl,rfl,rfl,trivial⟩ rfl) (λn z5 y4 h=>?_)));unfold cp at h;refine sr (jb (bJ rfl) ?_);refine nt (ak (ci h (λh=>?_) (λh=>?_)))
   .refine sk (ak (aj (sr ?_)));obtain⟨x6,Sz,h⟩:=aa h;refine jb (aX (t:=Tl) rfl rW ii Sz) ?_;refine ja (ap (t:=Tl) rfl ii rfl) ?_;refine aq (nt (sr ?_));iterate 2 refine mq ?_
    obtain⟨r7,SB,h⟩:=aa h;refine jb (av [.tmp 27,.tmp 28] rfl rfl OS rfl (lO k x6 a1 r7 SB)) ?_;refine aq (nt (sr ?_));refine mq ?_;refine jb (jj rfl) ?_;refine nt (ci h (λh=>?_) (λh=>?_))
    .refine sr (cq (nt ?_));refine aH (Z:=Value) (α:=(List Int)) (λz9 x8=>[(8,.rep Tl x6),(9,I r7),(10,.eq z9)]) (λz9 x8=>[.sl z9 3 Ti x8]) h (λK h=>?_) (λz9 x8 h=>?_)
     .refine sr (mq ?_);refine jb (oL rfl) ?_;refine nt (ci h (λh=>?_) (λh=>?_))
      .refine ab ?_;iterate 3 refine mq ?_
       obtain⟨SG,U,h⟩:=aa h;refine jb (eI rfl U) ?_;obtain⟨x,Q,h⟩:=aa h;refine jb (aX (t:=Ti) rfl iE cG Q) ?_;refine ja (ap (t:=Ti) rfl cG rfl) ?_;refine ja (bb (t:=Ti) [(.tmp 39,_)] [x] rfl rfl dA (.cons rfl .int .nil) rfl rfl) ?_;refine eC (SE.nil 3 Ti) ?_;obtain⟨SI,Y,h⟩:=aa h;refine dV rfl rfl rfl (cI rfl rfl dA (am Y)) ⟨rfl,rfl,trivial⟩ λSj=>?_;refine aq (nl ?_);exact jz (Sj,([]:(List Int))++[x]) h [0]
      .refine be (an (ce (SE.nil 3 Ti) ?_));exact jz ((.slice none 0 0),([]:(List Int))) h [0]
     .refine aH (Z:=Value) (α:=(List Int)) (λc j=>[(10,.eq c)]) (λc j=>[.sl c 3 Ti j]) h (λK h=>?_) (λc j h=>?_)
      .refine sr (mq ?_);obtain⟨SD,O,h⟩:=aa h;refine jb (bA rfl O) ?_;refine mq ?_;refine ol iE ?_;refine jb (bJ rfl) ?_;refine nt (ci h (λh=>?_) (λh=>?_))
       .refine ab ?_;iterate 3 refine mq ?_
        obtain⟨SC,J,h⟩:=aa h;refine jb (bA rfl J) ?_;obtain⟨u,F,h⟩:=aa h;refine jb (aX (t:=Ti) rfl iE cG F) ?_;refine ja (ap (t:=Ti) rfl cG rfl) ?_;refine ja (bb (t:=Ti) [(.tmp 52,_)] [u] rfl rfl dA (.cons rfl .int .nil) rfl rfl) ?_;obtain⟨SH,X,h⟩:=aa h;refine dV rfl rfl rfl (cI rfl rfl dA (am X)) ⟨rfl,rfl,trivial⟩ λSi=>?_;refine aq (nl ?_);exact jz (Si,x8++[u]) h [0]
       .refine be (an ?_);exact jz (z9,x8) h [0]
      .refine sr (mq ?_);obtain⟨Sr,mc,h⟩:=aa h;refine ka (av [.tmp 55] rfl rfl O8 rfl (sa k j c Sr mc)) ?_;refine nt (sr (mq ?_));refine eC (iG [10,55,57] ⟨rfl,rfl,rfl,trivial⟩) ?_;refine ja (dO [(0,.tmp 57,_)] rfl N8 Kt M5 (jO ⟨rfl,trivial⟩) rfl) ?_;refine ja (Iz (t0:=158) (t:=Ti) rfl Rf) ?_;refine aq (nt (ay (br (bD (bC ?_)))));obtain rfl:=hR _ h;exact ra
    .refine be (aR (tn (ab ?_)));obtain⟨zz,E,h⟩:=aa h;refine jb (bA rfl E) ?_;refine mq (nl ?_);exact jz ((),zz) h []
   .refine xa ?_;exact jz ((),()) h []
  .refine sr (cq (nt ?_));refine aH (Z:=Unit) (α:=Int) (λs l=>[(11,I l)]) (λs l=>[]) h (λK h=>?_) (λs l h=>?_)
   .refine sr (mq ?_);refine jb (oL rfl) ?_;refine nt (ci h (λh=>?_) (λh=>?_))
    .refine sr ?_;iterate 3 refine mq ?_
     obtain⟨qt,D,h⟩:=aa h;refine jb (eI rfl D) ?_;obtain⟨Sl,gw,h⟩:=aa h;refine jc (aV [.tmp 64,.tmp 65,.tmp 67] rfl rfl MH rfl (ih a0 a1 qt Sl gw)) ?_;refine bT rfl (AZ rfl EE (by decide)) ⟨rfl,trivial⟩ ?_;refine mq ?_;refine xr ?_;refine xr ?_;refine aY rfl rfl rfl (bz rfl D5 KV) trivial λSJ=>?_;refine aS rfl rfl (aO rfl KD trivial rfl rfl) ⟨rfl,rfl,trivial⟩ ?_;refine aq (nt (sr ?_));refine mq (nt ?_);refine cv h (λh=>?_) (λh=>?_)
     .refine ab (mq ?_);refine fl Bq ?_;refine lo cG ?_;obtain⟨mw,y,h⟩:=aa h;refine jb (bA rfl y) ?_;refine aq (nl ?_);exact jz ((),mw) h []
     .refine be (an ?_);exact jz ((),1) h []
    .refine be (an ?_);exact jz ((),1) h []
   .refine sr (mq ?_);refine ja (dO [(0,.tmp 77,_)] rfl N9 D5 M6 (jO ⟨rfl,trivial⟩) rfl) ?_;refine ja (IA (t1:=160) (t:=Ti) rfl Rh) ?_;refine aq (nt (ay ?_));cases h;exact ra
def gV(k:Nat)(a0:KP):Option (List Int):=
 some ([]:(List Int))
theorem pm(k:Nat)(a0:KP)(r:(List Int))(h:gV k a0=some r):
 dx Tryz.prog 171 [.rep NX a0] [] (λ_:Unit=>(bI [.rep Tl r],[])):=by
 unfold gV at h
 replace h:=bg h
 refine dx.of 3 Tryz.func171 rfl Tryz.ntmps171 rfl λS w0=>?_
 refine sr ?_
 refine bx λb1=>?_
 refine cq ?_
 refine nt ?_
 refine sr ?_
 refine cq ?_
 refine nt ?_
 refine ay ?_
 refine ce (eH (t:=Tl) (x:=([]:(List Int))) 2 rfl .nil rfl rfl) ?_
 cases h
 exact ra
def gR(k:Nat)(a0:KO):Option (List Int):=
 some a0
theorem pe(k:Nat)(a0:KO)(r:(List Int))(h:gR k a0=some r):
 dx Tryz.prog 172 [.rep NW a0] [] (λ_:Unit=>(bI [.rep Tl r],[])):=by
 unfold gR at h
 replace h:=bg h
 refine dx.of 5 Tryz.func172 rfl Tryz.ntmps172 rfl λS w0=>?_
 refine sr ?_
 refine bx λb1=>?_
 refine cq ?_
 refine nt ?_
 refine sr ?_
 refine fl Ji ?_
 refine lo ii ?_
 refine aq ?_
 refine nt ?_
 refine ay ?_
 cases h
 exact ra
def bO(k:Nat)(a0:ah)(a1:(List Int))(r5:(List Int)):Nat->Int->Option (Except Int Unit)
 |0,_=>none
 |n+1,y6=>
  if y6 < (r5.length:Int) then((aU r5 y6).bind λx8=>
  (cO (0≤x8/\x8 < 5)).bind λ_=>
  (aU a1 x8).bind λe=>
  if(mz 0 a0.2.1)≤e then(some (.error x8)) else((ck (y6+1)).bind λc=>
  bO k a0 a1 r5 n c)) else(some (.ok ()))
def c7(k:Nat)(a0:ah)(a1:(List Int))(a2:Int)(a3:Int):Option Int:=
 bE (α:=Unit) ((dH k k a0 a2 a3).bind λr4=>
 (GU r4 (λn=>gV k n) (λl=>gR k l)).bind λr5=>
 bO k a0 a1 r5 k 0) (some) λ_=>
 some (-1:Int)
theorem jp{M:Md Tryz.prog}{bm:Nat}{c0 c1 c2 c3 c4 c5:Value}(hK:Kn M bm 0 [c0,c1,c2,c3,c4,c5])(k:Nat)(a0:ah)(a1:(List Int))(a2:Int)(a3:Int)(r:Int)(h:c7 k a0 a1 a2 a3=some r):
    bX M 89 [.rep (.mo (Pv bm) [c0,c1,c2,c3,c4,c5] au) a0,.rep Tr a1,.eq (.int .i64 a2),.eq (.int .i64 a3)] [] (λ_:Unit=>(bI [.eq (.int .i64 r)],[])):=by
  unfold c7 at h
  replace h:=bg h
  refine bX.of 33 Tryz.func89 rfl Tryz.ntmps89 rfl λS w0=>?_
  refine ak ?_
  refine ab ?_
  refine aY rfl rfl rfl (vd rfl rfl) ⟨rfl,trivial⟩ λb1=>?_
  refine BW rfl ?_
  refine aE ?_
  refine an ?_
  show JC _ _ _ _ _
  refine dw (Z:=Unit) (α:=Unit) (λz3 x2=>[]) (λz3 x2=>[]) (λe=>e=r) h (λe h=>Option.some.inj h) (λK hR h=>?_) (λz3 x2 h=>?_)
  .
    refine ak ?_
    refine ab ?_
    refine gp rfl rfl ?_
    refine gp rfl rfl ?_
    refine gp rfl rfl ?_
    obtain⟨r4,D,h⟩:=aa h
    have E:=kH hK k k a0 a2 a3 r4 D
    refine bT rfl (aV [.tmp 11,.tmp 12,.tmp 13] rfl rfl MH rfl E) ⟨rfl,rfl,rfl,trivial⟩ ?_
    obtain⟨r5,c,h⟩:=aa h
    refine bT rfl (IB (r:=.rep Tl r5) rfl rfl ux uw (λn hd=>.agI (pm k n r5 (by rw [hd] at c;exact c))) (λl hd=>.agS (pe k l r5 (by rw [hd] at c;exact c)))) ⟨rfl,trivial⟩ ?_
    refine bT rfl (vc rfl rfl iE) ⟨rfl,trivial⟩ ?_
    refine eK rfl ?_
    refine aE ?_
    refine an ?_
    show JC _ _ _ _ _
    refine aj ?_
    refine aF (λz7 y6=>[(0,.rep (.mo (Pv bm) [c0,c1,c2,c3,c4,c5] au) a0),(5,.eq (Pv b1)),(15,.rep Tl r5),(16,.eq (.int .i64 (r5.length:Int))),(17,.eq (.int .i64 y6))]) (λz7 y6=>[.obj b1 78 (.rep Tr a1)]) (bO k a0 a1 r5) k () 0 (λ_=>rfl) h (SE.fin [0] ⟨rfl,rfl,rfl,rfl,rfl,trivial⟩ rfl) (λn z7 y6 h=>?_)
    unfold bO at h
    refine ak ?_
    refine ab ?_
    refine bT rfl (bJ rfl) ⟨rfl,rfl,trivial⟩ ?_
    refine aE ?_
    refine an ?_
    show JC _ _ _ _ _
    refine ak ?_
    refine iH rfl (λhb=>?_) (λhb=>?_)
    . replace h:=eU (uF hb) h
      refine be ?_
      refine an ?_
      show JC _ _ _ _ _
      refine ak ?_
      refine aj ?_
      refine ak ?_
      refine ab ?_
      obtain⟨x8,y,h⟩:=aa h
      refine bT rfl (aX (t:=Ti) rfl iE cG y) ⟨rfl,rfl,trivial⟩ ?_
      refine bT rfl (ap (t:=Ti) rfl cG rfl) ⟨rfl,trivial⟩ ?_
      refine t5 rfl rfl ?_
      refine aE ?_
      refine an ?_
      show JC _ _ _ _ _
      refine ak ?_
      refine cP ?_
      refine fy rfl rfl rfl (bK rfl) ⟨rfl,trivial⟩ ?_
      obtain⟨u9,u,h⟩:=aa h
      refine fy rfl rfl rfl (dB rfl Az cG (am u).1 (am u).2) ⟨rfl,rfl,trivial⟩ ?_
      obtain⟨F,s,h⟩:=aa h
      refine t8 0 rfl rfl rfl rfl (me (t:=Ti) (off:=0) (i:=x8) (N:=5) rfl cG (λ_=>rfl) rfl rfl rfl rfl s) ⟨rfl,trivial⟩ ?_
      refine fy rfl rfl rfl (bK rfl) ⟨rfl,trivial⟩ ?_
      refine fy rfl rfl rfl (kD rfl) ⟨rfl,trivial⟩ ?_
      refine fy rfl rfl rfl (fV rfl gi) ⟨rfl,trivial⟩ ?_
      refine fy rfl rfl rfl (gY 1 false rfl Ah rfl rfl) ⟨rfl,trivial⟩ ?_
      refine fy rfl rfl rfl (iO (t:=Ti) rfl cG (hK.sub 1 1 rfl (le_of_ble_eq_true rfl)) rfl rfl) ⟨rfl,trivial⟩ ?_
      refine fy rfl rfl rfl (AX rfl rfl) ⟨rfl,rfl,trivial⟩ ?_
      refine AI (by kernel_rfl) ew ?_
      refine bT rfl (jj rfl) ⟨rfl,rfl,trivial⟩ ?_
      refine aE ?_
      refine an ?_
      show JC _ _ _ _ _
      refine iH rfl (λhb=>?_) (λhb=>?_)
      . replace h:=eU (uF hb) h
        refine ak ?_
        refine ab ?_
        refine gp rfl rfl ?_
        refine t5 rfl rfl ?_
        refine aE ?_
        refine an ?_
        show JC _ _ _ _ _
        refine ay ?_
        refine bD ?_
        refine bC ?_
        refine bC ?_
        refine bD ?_
        refine bC ?_
        obtain rfl:=hR _ h
        exact aM () [_] 0 ⟨rfl,trivial⟩ rfl
      . replace h:=c6 (uG hb) h
        refine be ?_
        refine aR ?_
        refine an ?_
        show JC _ _ _ _ _
        refine ab ?_
        obtain⟨x,j,h⟩:=aa h
        refine bT rfl (bA rfl j) ⟨rfl,rfl,trivial⟩ ?_
        refine gp rfl rfl ?_
        refine aE ?_
        refine an ?_
        exact t6 ((),x) h (SE.fin [0] ⟨rfl,rfl,rfl,rfl,rfl,trivial⟩ rfl)
    . replace h:=c6 (uG hb) h
      refine fP ?_
      refine bQ ?_
      refine bQ ?_
      refine c8 ?_
      refine an ?_
      exact t6 ((),()) h (SE.fin [] trivial rfl)
  .
    refine ak ?_
    refine ab ?_
    refine BW rfl ?_
    refine aE ?_
    refine an ?_
    show JC _ _ _ _ _
    refine ay ?_
    obtain rfl:=Option.some.inj h
    exact aM () [_] 0 ⟨rfl,trivial⟩ rfl
def bZ(k:Nat)(a0:ah)(a1:(List Int))(a2:Int):Nat->((List Int)×Int)->Option (List Int)
 |0,_=>none
 |n+1,y6=>
  if y6.2 < a0.1 then((((dH k k a0 y6.2 a2).bind λc=>
  if Ir c=true then(if a0.2.2.2.1≤(N6 c) then((cO (0≤y6.2/\y6.2 < 5)).bind λ_=>
  some (List.set y6.1 (Int.toNat y6.2) (-1:Int))) else(some y6.1)) else(if¬(Ir c=true) then((cO (0≤y6.2/\y6.2 < 5)).bind λ_=>
  (aU a1 y6.2).bind λl=>
  if 0≤l then((cO (0≤y6.2/\y6.2 < 5)).bind λ_=>
  (aU a1 y6.2).bind λj=>
  (ck (j+1)).bind λh=>
  (cO (0≤y6.2/\y6.2 < 5)).bind λ_=>
  some (List.set y6.1 (Int.toNat y6.2) h)) else((c7 k a0 a1 y6.2 a2).bind λr=>
  if 0≤r then((cO (0≤y6.2/\y6.2 < 5)).bind λ_=>
  some (List.set y6.1 (Int.toNat y6.2) 0)) else(some y6.1))) else(some y6.1))):Option ((List Int))).bind λx8=>
  (ck (y6.2+1)).bind λe=>
  bZ k a0 a1 a2 n (x8,e)) else(some y6.1)
def fX(k:Nat)(a0:ah)(a1:(List Int))(a2:Int):Option (List Int):=
 ((bZ k a0 a1 a2 k (a1,0)):Option ((List Int))).bind λx4=>
 some x4
theorem qe{M:Md Tryz.prog}{bm:Nat}{c0 c1 c2 c3 c4 c5:Value}(hK:Kn M bm 0 [c0,c1,c2,c3,c4,c5])(k:Nat)(a0:ah)(a1:(List Int))(a2:Int)(r:(List Int))(h:fX k a0 a1 a2=some r):
 bX M 79 [.rep (.mo (Pv bm) [c0,c1,c2,c3,c4,c5] au) a0,.rep Tr a1,I a2] [] (λ_:Unit=>(bI [.rep Tr r],[])):=by
 unfold fX at h
 replace h:=bg h
 refine bX.of 60 Tryz.func79 rfl Tryz.ntmps79 rfl λS w0=>?_
 refine sr ?_
 refine bx λb1=>?_
 refine aY rfl rfl rfl (bz rfl HJ JJ) trivial λb2=>?_
 refine nt ?_
 refine sr ?_
 refine fr 1 ?_
 refine lo iJ ?_
 refine aY rfl rfl rfl (bz rfl HJ JJ) trivial λb3=>?_
 refine aS rfl rfl (aO rfl iJ rfl rfl rfl) ⟨rfl,rfl,trivial⟩ ?_
 refine nt ?_
 refine aH (Z:=Unit) (α:=(List Int)) (λz5 x4=>[(6,Pt b2),(7,Pt b3)]) (λz5 x4=>[.obj b2 78 (.rep Tr [0,0,0,0,0]),.obj b3 78 (.rep Tr x4)]) h (λK h=>?_) (λz5 x4 h=>?_)
 .
  refine sr (mq ?_);refine ja (kD rfl) ?_;refine ja (fV rfl gi) ?_;refine ja (gY 1 false rfl fH rfl rfl) ?_;refine ja (iO (t:=Ti) rfl cG (hK.sub 0 1 rfl (le_of_ble_eq_true rfl)) rfl rfl) ?_;refine eK rfl ?_;refine nt (aj (aF (λz7 y6=>[(0,.rep (.mo (Pv bm) [c0,c1,c2,c3,c4,c5] au) a0),(2,I a2),(4,Pt b1),(6,Pt b2),(7,Pt b3),(16,I a0.1),(17,I y6.2)]) (λz7 y6=>[.obj b1 78 (.rep Tr a1),.obj b2 78 (.rep Tr [0,0,0,0,0]),.obj b3 78 (.rep Tr y6.1)]) (bZ k a0 a1 a2) k () (a1,0) (λ_=>rfl) h (SE.fin [1,2,0] ⟨rfl,rfl,rfl,rfl,rfl,rfl,rfl,trivial⟩ rfl) (λn z7 y6 h=>?_)));unfold bZ at h;refine sr (jb (bJ rfl) ?_);refine nt (ak (ci h (λh=>?_) (λh=>?_)))
  .refine sk (aH (Z:=Unit) (α:=(List Int)) (λz9 x8=>[(0,.rep (.mo (Pv bm) [c0,c1,c2,c3,c4,c5] au) a0),(2,I a2),(4,Pt b1),(6,Pt b2),(7,Pt b3),(16,I a0.1),(17,I y6.2)]) (λz9 x8=>[.obj b1 78 (.rep Tr a1),.obj b2 78 (.rep Tr [0,0,0,0,0]),.obj b3 78 (.rep Tr x8)]) h (λK h=>?_) (λz9 x8 h=>?_))
   .refine aj (sr (mq ?_));refine aq (nt (sr ?_));iterate 3 refine mq ?_
    obtain⟨U,F,h⟩:=aa h;refine jc (aV [.tmp 20,.tmp 21,.tmp 22] rfl rfl MH rfl (kH hK k k a0 y6.2 a2 U F)) ?_;refine nt (aj (sr (bT rfl (AZ rfl EE (by decide)) ⟨rfl,trivial⟩ ?_)));refine xr ?_;refine xr ?_;refine nt (cv h (λh=>?_) (λh=>?_))
    .refine sr (aY rfl rfl rfl (bz rfl D5 KV) trivial λSi=>?_);refine aS rfl rfl (aO rfl KD trivial rfl rfl) ⟨rfl,rfl,trivial⟩ ?_;refine nt (ak (cP ?_));refine da (aG rfl Bq) ?_;refine ea 0 (ax rfl cG o9 rfl) ?_;refine dm ?_;refine da (kD rfl) ?_;refine da (fV rfl gi) ?_;refine da (gY 1 false rfl GE rfl rfl) ?_;refine da (iO (t:=Ti) rfl cG (hK.sub 3 1 rfl (le_of_ble_eq_true rfl)) rfl rfl) ?_;refine df ew ?_;refine jb (jj rfl) ?_;refine nt (ci h (λh=>?_) (λh=>?_))
     .refine ab (mq ?_);obtain⟨qt,j,h⟩:=aa h;refine jb (dB rfl Az cG (am j).1 (am j).2) ?_;refine fr 3 ?_;refine aS rfl rfl (fU (t:=Ti) (off:=0) (i:=y6.2) (N:=5) rfl cG .int rfl rfl rfl rfl (am j).1 (am j).2 rfl) ⟨rfl,rfl,trivial⟩ ?_;refine aE (aR (bn ?_));exact jz ((),List.set y6.1 (Int.toNat y6.2) (-1:Int)) h [2,3,0]
     .refine be (aR (bn ?_));exact jz ((),y6.1) h [1,2,3]
    .refine sr (bT rfl (IF rfl Lm (by decide)) ⟨rfl,trivial⟩ ?_);refine xr ?_;refine xr ?_;refine nt (cw h (λh=>?_) (λh=>?_))
     .refine sr (aY rfl rfl rfl (bz rfl Kt Pm) trivial λzz=>?_);refine aS rfl rfl (aO rfl NY trivial rfl rfl) ⟨rfl,rfl,trivial⟩ ?_;refine nt (sr (mq ?_));obtain⟨mw,s,h⟩:=aa h;refine jb (dB rfl Az cG (am s).1 (am s).2) ?_;obtain⟨Y,D,h⟩:=aa h;refine fr 1 ?_;refine ka (me (t:=Ti) (off:=0) (i:=y6.2) (N:=5) rfl cG (λ_=>rfl) rfl rfl rfl rfl D) ?_;refine jb (jj rfl) ?_;refine nt (ci h (λh=>?_) (λh=>?_))
      .refine ab ?_;iterate 2 refine mq ?_
       obtain⟨u16,l,h⟩:=aa h;refine jb (dB rfl Az cG (am l).1 (am l).2) ?_;obtain⟨X,y,h⟩:=aa h;refine ka (me (t:=Ti) (off:=0) (i:=y6.2) (N:=5) rfl cG (λ_=>rfl) rfl rfl rfl rfl y) ?_;obtain⟨O,x,h⟩:=aa h;refine jb (bA rfl x) ?_;obtain⟨mc,e,h⟩:=aa h;refine jb (dB rfl Az cG (am e).1 (am e).2) ?_;refine fr 3 ?_;refine aS rfl rfl (fU (t:=Ti) (off:=0) (i:=y6.2) (N:=5) rfl cG .int rfl rfl rfl rfl (am e).1 (am e).2 rfl) ⟨rfl,rfl,trivial⟩ ?_;refine aE (aR (bn ?_));exact jz ((),List.set y6.1 (Int.toNat y6.2) O) h [1,3,0]
      .refine sr (mq ?_);refine lo iJ ?_;iterate 2 refine mq ?_
       obtain⟨Q,E,h⟩:=aa h;refine bT rfl (aV [.tmp 50,.tmp 51,.tmp 52,.tmp 53] rfl rfl OP rfl (jp hK k a0 a1 y6.2 a2 Q E)) ⟨rfl,rfl,rfl,rfl,trivial⟩ ?_;refine jb (jj rfl) ?_;refine nt (ci h (λh=>?_) (λh=>?_))
       .refine ab (mq ?_);obtain⟨gw,c,h⟩:=aa h;refine jb (dB rfl Az cG (am c).1 (am c).2) ?_;refine fr 3 ?_;refine aS rfl rfl (fU (t:=Ti) (off:=0) (i:=y6.2) (N:=5) rfl cG .int rfl rfl rfl rfl (am c).1 (am c).2 rfl) ⟨rfl,rfl,trivial⟩ ?_;refine aE (aR (bn ?_));exact jz ((),List.set y6.1 (Int.toNat y6.2) 0) h [1,3,0]
       .refine be (aR (bn ?_));exact jz ((),y6.1) h [0,2,3]
     .refine be (aR (bn ?_));exact jz ((),y6.1) h [0,1,2]
   .refine ab ?_;obtain⟨J,u,h⟩:=aa h;refine jb (bA rfl u) ?_;refine mq (nl ?_);exact jz ((),(x8,J)) h [0,1,2]
  .refine xa ?_;exact jz ((),y6.1) h [1,2]
 .
  refine sr (fr 1 ?_);refine lo iJ ?_;refine fr 1 ?_;refine aS rfl rfl (aO rfl iJ rfl rfl rfl) ⟨rfl,rfl,trivial⟩ ?_;refine nt (ay ?_);obtain rfl:=Option.some.inj h;exact aM () [.rep Tr x4] 0 ⟨⟨_,_,_,_,_,rfl,(.head _),iJ,(uc),rfl⟩,trivial⟩ rfl
def ge{σ:Type}(k:Nat)(a0:Int)(a3:Int)(self:Int->Int->σ->Option (Bool×σ)):Nat->(Int×σ)->Option (Except (Bool×σ) (σ))
 |0,_=>none
 |n+1,y5=>
  if y5.1 < a3 then((fo k a0 y5.1).bind λr7=>
  (ck (y5.1+1)).bind λx8=>
  (self r7 x8 y5.2).bind λr9=>
  if¬(r9.1=true) then(some (.error (false,r9.2))) else((ck (y5.1+1)).bind λc=>
  ge k a0 a3 self n (c,r9.2))) else(some (.ok y5.2))
def gy{σ:Type}(k:Nat)(Y:σ->Int->Option (σ×Bool))(a3:Int):Nat->Int->Int->σ->Option (Bool×σ)
 |0,_,_,_=>none
 |m0+1,a0,a1,s0=>
  (Y s0 a0).bind λr1=>
  if¬(r1.2=true) then(some (false,r1.1)) else(bE (α:=σ) (ge k a0 a3 (gy k Y a3 m0) k (a1,r1.1)) (some) λx3=>
  some (true,x3))
theorem qZ{M:Md Tryz.prog}{σ Z:Type}(E:Z->σ->List D)(l:Nat)(Y:σ->Int->Option (σ×Bool))(k:Nat)(u:Nat)(a3:Int)(j:Nat)(c:Nat)(hY:∀z s p r,Y s p=some r->YT M l [.eq (.int .u8 p)] (E z s) (λz':Z=>(.eq (.bool r.2),E z' r.1))):
 ∀(n:Nat) (a0:Int) (a1:Int) (z0:Z) (s0:σ) (r:Bool×σ),gy k Y a3 n a0 a1 s0=some r->bX M 82 [.eq (.int .u8 a0),I a1,Pt u,Pt j,Pt c] ([.obj u 99 (.eq (.func (.yield l) #[] #[])),.obj j 3 (I a3),.obj c 98 (.eq (.func (.func 82) #[] #[(Pv u),(Pv j),(Pv c)]))]++E z0 s0) (λz:Z=>(bI [.eq (.bool r.1)],[.obj u 99 (.eq (.func (.yield l) #[] #[])),.obj j 3 (I a3),.obj c 98 (.eq (.func (.func 82) #[] #[(Pv u),(Pv j),(Pv c)]))]++E z r.2)):=by
 intro n
 induction n with
 |zero=>intro a0 a1 z0 s0 r h;cases h
 |succ m0 ih=>
  intro a0 a1 z0 s0 r h;rw [gy] at h;replace h:=bg h;refine bX.of 27 Tryz.func82 rfl Tryz.ntmps82 rfl λS w0=>?_;refine sr (cq (nt (ak (sr ?_))));refine lo Qb ?_;refine mq ?_;obtain⟨r1,U,h⟩:=aa h;refine fr 2 ?_;refine fr 2 ?_;refine fr 2 ?_;refine Hl [.obj u 99 (.eq (.func (.yield l) #[] #[])),.obj j 3 (I a3),.obj c 98 (.eq (.func (.func 82) #[] #[(Pv u),(Pv j),(Pv c)]))] rfl rfl rfl (Iw [.tmp 10] rfl rfl rfl (hY z0 s0 a0 r1 U)) ⟨rfl,rfl,trivial⟩ λz2=>?_;refine ja (hH rfl) ?_;refine nt (cw h (λh=>?_) (λh=>?_))
  .refine sr (cq (nt (rx ?_)));cases h;exact sN z2 [_] ⟨rfl,trivial⟩ rfl
  .refine sk (dw (Z:=Z) (α:=σ) (λz4 x3=>[]) (λz4 x3=>[.obj u 99 (.eq (.func (.yield l) #[] #[])),.obj j 3 (I a3),.obj c 98 (.eq (.func (.func 82) #[] #[(Pv u),(Pv j),(Pv c)]))]++E z4 x3) (λe=>e=r) h (λe h=>Option.some.inj h) (λK hR h=>?_) (λz4 x3 h=>?_))
   .refine sr (mq ?_);refine aq (nt (aj ?_));refine aF (Z:=Z) (α:=Int×σ) (λz6 y5=>[(0,.eq (.int .u8 a0)),(3,Pt j),(4,Pt c),(8,I y5.1)]) (λz6 y5=>[.obj j 3 (I a3),.obj c 98 (.eq (.func (.func 82) #[] #[(Pv u),(Pv j),(Pv c)])),.obj u 99 (.eq (.func (.yield l) #[] #[]))]++E z6 y5.2) (ge k a0 a3 (gy k Y a3 m0)) k z2 (a1,r1.1) (λ_=>rfl) h (jY [.obj u 99 (.eq (.func (.yield l) #[] #[])),.obj j 3 (I a3),.obj c 98 (.eq (.func (.func 82) #[] #[(Pv u),(Pv j),(Pv c)]))] (E z2 r1.1) [1,2,0] ⟨rfl,rfl,rfl,rfl,trivial⟩ rfl) (λn z6 y5 h=>?_);unfold ge at h;refine ak (sr (mq ?_));refine lo cG ?_;refine jb (bJ rfl) ?_;refine nt (ci h (λh=>?_) (λh=>?_))
    .refine sk (ak (aj (ak (cP ?_))));refine ea 1 (ax rfl Ln o9 rfl) ?_;refine dm ?_;refine dm ?_;obtain⟨r7,Q,h⟩:=aa h;refine db (av [.tmp 20,.tmp 21] rfl rfl MK rfl (jI k a0 y5.1 r7 Q)) ?_;refine dm ?_;obtain⟨x8,J,h⟩:=aa h;refine db (bA rfl J) ?_;refine df ew ?_;obtain⟨r9,O,h⟩:=aa h;refine fr 1 ?_;refine fr 1 ?_;refine fr 2 ?_;refine yW rfl rfl rfl (pV (fs:=[]) (cs:=[(Pv u),(Pv j),(Pv c)]) (ags:=[.eq (.int .u8 r7),I x8]) [.tmp 22,.tmp 24] rfl rfl OQ rfl (ih r7 x8 z6 y5.2 r9 O)) ⟨rfl,rfl,rfl,trivial⟩ λx=>?_;refine ja (hH rfl) ?_;refine nt (cw h (λh=>?_) (λh=>?_))
     .refine sr (cq (nt (ay (br (bD (bC ?_))))));obtain rfl:=hR _ h;exact sN x [_] ⟨rfl,trivial⟩ rfl
     .refine be (aR (tn (ab (mq ?_))));obtain⟨F,y,h⟩:=aa h;refine jb (bA rfl y) ?_;refine aq (nl ?_);exact t6 (x,(F,r9.2)) h (jY [.obj u 99 (.eq (.func (.yield l) #[] #[])),.obj j 3 (I a3),.obj c 98 (.eq (.func (.func 82) #[] #[(Pv u),(Pv j),(Pv c)]))] (E x r9.2) [1,2,0] ⟨rfl,rfl,rfl,rfl,trivial⟩ rfl)
    .refine xa ?_;exact t6 (z6,y5.2) h (jY [.obj j 3 (I a3),.obj c 98 (.eq (.func (.func 82) #[] #[(Pv u),(Pv j),(Pv c)])),.obj u 99 (.eq (.func (.yield l) #[] #[]))] (E z6 y5.2) [2,0,1] trivial rfl)
   .refine sr (cq (nt (ay ?_)));cases h;exact sN z4 [_] ⟨rfl,trivial⟩ rfl
def lq{σ:Type}(k:Nat)(Y:σ->Int->Option (σ×Bool))(a1:Int)(s0:σ):Option (σ):=
 (gy k Y a1 k 0 0 s0).bind λr3=>
 some r3.2
theorem nB{M:Md Tryz.prog}{σ Z:Type}(E:Z->σ->List D)(l:Nat)(Y:σ->Int->Option (σ×Bool))(k:Nat)(a1:Int)(c:Nat)(hY:∀z s p r,Y s p=some r->YT M l [.eq (.int .u8 p)] (E z s) (λz':Z=>(.eq (.bool r.2),E z' r.1))):
 ∀(z0:Z) (s0:σ) (r:σ),lq k Y a1 s0=some r->bX M 81 [.eq (.func (.yield l) #[] #[]),Pt c] ([.obj c 3 (I a1)]++E z0 s0) (λz:Z=>(bI [],[.obj c 3 (I a1)]++E z r)):=by
 intro z0 s0 r h
 unfold lq at h
 replace h:=bg h
 refine bX.of 7 Tryz.func81 rfl Tryz.ntmps81 rfl λS w0=>?_
 refine sr ?_
 refine bx λb1=>?_
 refine nt ?_
 refine sr ?_
 refine aY rfl rfl rfl (bz rfl P5 Q9) trivial λb2=>?_
 refine nt ?_
 refine sr ?_
 refine jc (qP [] [.tmp 2,.tmp 1,.tmp 3] [] [(Pv b1),(Pv c),(Pv b2)] rfl rfl rfl) ?_
 refine aS rfl rfl (aO rfl Ln rfl rfl rfl) ⟨rfl,rfl,trivial⟩ ?_
 refine nt ?_
 refine ab ?_
 refine lo Ln ?_
 obtain⟨r3,e,h⟩:=aa h
 have j:=qZ E l Y k b1 a1 c b2 hY k 0 0 z0 s0 r3 e
 refine fr 2 ?_
 refine fr 2 ?_
 refine yW rfl rfl rfl (pV (fs:=[]) (cs:=[(Pv b1),(Pv c),(Pv b2)]) (ags:=[.eq (.int .u8 0),I 0]) [.const (.int .u8 (0)),.const (.int .i64 (0))] rfl rfl OQ rfl j) ⟨rfl,rfl,rfl,trivial⟩ λz4=>?_
 refine aE ?_
 refine jB ?_
 refine ce (jY (Γ':=[]) [.obj b1 99 (.eq (.func (.yield l) #[] #[])),.obj c 3 (I a1),.obj b2 98 (.eq (.func (.func 82) #[] #[(Pv b1),(Pv c),(Pv b2)]))] (E z4 r3.2) [1] trivial rfl) ?_
 cases h
 exact sN z4 [] trivial rfl
theorem qg(a0:Int):dx Tryz.prog 52 [I a0] [] (λz:Nat=>(bI [.eq (.func (.func 81) #[] #[(Pv z)])],[.obj z 3 (I a0)])):=by
 refine dx.of 4 Tryz.func52 rfl Tryz.ntmps52 rfl λS w0=>?_;refine sr (bx λz=>?_);refine cq (nt (sr ?_));refine ja (qP [] [.tmp 1] [] [(Pv z)] rfl rfl rfl) ?_;refine aq (nt (ay ?_));exact aM z [_] 1 ⟨rfl,trivial⟩ rfl
def gQ(k:Nat)(a0:Int):Nat->((List Int)×Int)->Option (List Int)
 |0,_=>none
 |n+1,y3=>
  if y3.2 < 5 then((((ee k a0 y3.2).bind λr7=>
  if r7=true then((cO (cE (length y3.1+length [y3.2]))).bind λ_=>
  some (y3.1++[y3.2])) else(some y3.1)):Option ((List Int))).bind λx5=>
  (ck (y3.2+1)).bind λc=>
  gQ k a0 n (x5,c)) else(some y3.1)
def iq(k:Nat)(a0:Int):Option (List Int):=
 ((gQ k a0 k (([]:(List Int)),0)):Option ((List Int))).bind λx1=>
 some x1
theorem jJ(k:Nat)(a0:Int)(r:(List Int))(h:iq k a0=some r):
 dx Tryz.prog 39 [.eq (.int .u8 a0)] [] (λ_:Unit=>(bI [.rep Tl r],[])):=by
 unfold iq at h
 replace h:=bg h
 refine dx.of 17 Tryz.func39 rfl Tryz.ntmps39 rfl λS w0=>?_
 refine sr ?_
 refine cq ?_
 refine nt ?_
 refine sr ?_
 refine cq ?_
 refine nt ?_
 refine aH (Z:=Value) (α:=(List Int)) (λz2 x1=>[(3,.eq z2)]) (λz2 x1=>[.sl z2 3 Ti x1]) h (λK h=>?_) (λz2 x1 h=>?_)
 .
  refine sr (eK rfl ?_);refine nt (aj (iL (SE.nil 3 Ti) ?_));refine aF (λz4 y3=>[(0,.eq (.int .u8 a0)),(3,.eq z4),(5,I y3.2)]) (λz4 y3=>[.sl z4 3 Ti y3.1]) (gQ k a0) k (.slice none 0 0) (([]:(List Int)),0) (λ_=>rfl) h (SE.fin [0] ⟨rfl,rfl,rfl,trivial⟩ rfl) (λn z4 y3 h=>?_);unfold gQ at h;refine sr (jb (bJ rfl) ?_);refine nt (ak (ci h (λh=>?_) (λh=>?_)))
  .refine sk (aH (Z:=Value) (α:=(List Int)) (λz6 x5=>[(0,.eq (.int .u8 a0)),(3,.eq z6),(5,I y3.2)]) (λz6 x5=>[.sl z6 3 Ti x5]) h (λK h=>?_) (λz6 x5 h=>?_))
   .refine aj (sr (mq ?_));refine aq (nt (sr ?_));iterate 2 refine mq ?_
    obtain⟨r7,l,h⟩:=aa h;refine jb (av [.tmp 8,.tmp 9] rfl rfl GI rfl (fW k a0 y3.2 r7 l)) ?_;refine nt (cv h (λh=>?_) (λh=>?_))
    .refine ab ?_;iterate 2 refine mq ?_
     refine ja (bb (t:=Ti) [(.tmp 12,_)] [y3.2] rfl rfl dA (.cons rfl .int .nil) rfl rfl) ?_;obtain⟨u8,j,h⟩:=aa h;refine dV rfl rfl rfl (cI rfl rfl dA (am j)) ⟨rfl,rfl,trivial⟩ λv9=>?_;refine aq (aE (bn ?_));exact jz (v9,y3.1++[y3.2]) h [0]
    .refine be (bn ?_);exact jz (z4,y3.1) h [0]
   .refine ab ?_;obtain⟨e,c,h⟩:=aa h;refine jb (bA rfl c) ?_;refine mq (nl ?_);exact jz (z6,(x5,e)) h [0]
  .refine xa ?_;exact jz (z4,y3.1) h [0]
 .
  refine sr (mq ?_);refine aq (nt (ay ?_));refine ce (iG [2,3,16] ⟨rfl,rfl,rfl,trivial⟩) ?_;cases h;exact ra
def gu(k:Nat)(a0:List Int):Option (List Int):=
 (cO (cE (length a0))).bind λ_=>some a0
theorem qI(k:Nat)(a0:List Int)(r:List Int)(h:gu k a0=some r):
 dx Tryz.prog 41 [.rep Tl a0] [] (λz:Value=>(bI [.eq z],[.sl z 3 Ti r])):=by
 unfold gu at h
 replace h:=bg h
 refine dx.of 8 Tryz.func41 rfl Tryz.ntmps41 rfl λS w0=>?_
 obtain⟨u1,c,h⟩:=aa h
 cases h
 refine sr ?_
 refine cq ?_
 refine nt ?_
 refine ak ?_
 refine sr ?_
 refine mq ?_
 refine aI (Δ:=[]) (F:=_) (λ_ _ _=>ae rfl _) rfl rfl (ID rfl iE) ⟨rfl,rfl,trivial⟩ λb=>?_
 refine nt ?_
 refine iH rfl (λhb=>?_) (λhb=>?_)
 .
  refine sr (cq (nt (rx ?_)));obtain rfl:=b.2 hb;refine ce (SE.nil 3 Ti) ?_;exact aM (.slice none 0 0) [.eq (.slice none 0 0)] 1 ⟨rfl,trivial⟩ rfl
 .
  refine sk (sr (aY rfl rfl rfl (mf (t:=Ti) [] [] rfl rfl dA .nil rfl rfl) trivial λv1=>?_));refine mq ?_;refine dV rfl rfl rfl (cI rfl rfl dA (by simpa using am c)) ⟨rfl,rfl,trivial⟩ λv2=>?_;refine aq (nt (ay ?_));exact aM v2 [.eq v2] 1 ⟨rfl,trivial⟩ rfl
def eA(k:Nat)(a0:ah)(a1:(List (List Int))):Nat->Int->Option (Except Bool Unit)
 |0,_=>none
 |n+1,y5=>
  if y5 < (a1.length:Int) then((aU a1 y5).bind λx7=>
  if¬((x7.length:Int)=a0.1) then(some (.error false)) else((ck (y5+1)).bind λx8=>
  eA k a0 a1 n x8)) else(some (.ok ()))
def iS(k:Nat)(a0:ah)(a1:(List (List Int))):Option Bool:=
 (ck ((a0.2.2.2.2.1.length:Int)+1)).bind λx2=>
 if¬((a1.length:Int)=x2) then(some false) else(bE (α:=Unit) (eA k a0 a1 k 0) (some) λ_=>
 some true)
theorem my(k:Nat)(a0:ah)(a1:(List (List Int)))(r:Bool)(h:iS k a0 a1=some r):
 dx Tryz.prog 14 [.rep au a0,.rep (.slice Tl) a1] [] (λ_:Unit=>(bI [.eq (.bool r)],[])):=by
 unfold iS at h
 replace h:=bg h
 refine dx.of 27 Tryz.func14 rfl Tryz.ntmps14 rfl λS w0=>?_
 refine sr ?_
 refine bx λb1=>?_
 refine cq ?_
 refine nt ?_
 refine ak ?_
 refine sr ?_
 refine mq ?_
 refine ol rW ?_
 refine fl eE ?_
 refine lo lD ?_
 refine ol AA ?_
 obtain⟨x2,l,h⟩:=aa h
 refine jb (bA rfl l) ?_
 refine jb (eL rfl) ?_
 refine nt ?_
 refine cn h (λh=>?_) (λh=>?_)
 .
  refine sr (cq (nt (rx ?_)));cases h;exact ra
 .
  refine sk (dw (Z:=Unit) (α:=Unit) (λz4 x3=>[]) (λz4 x3=>[]) (λe=>e=r) h (λe h=>Option.some.inj h) (λK hR h=>?_) (λz4 x3 h=>?_))
  .refine sr (cq (nt (aj ?_)));refine aF (λz6 y5=>[(1,.rep (.slice Tl) a1),(2,Pt b1),(5,I y5)]) (λz6 y5=>[.obj b1 26 (.rep au a0)]) (eA k a0 a1) k () 0 (λ_=>rfl) h (SE.fin [0] ⟨rfl,rfl,rfl,trivial⟩ rfl) (λn z6 y5 h=>?_);unfold eA at h;refine ak (sr ?_);iterate 2 refine mq ?_
   refine ol rW ?_;refine jb (bJ rfl) ?_;refine nt (ci h (λh=>?_) (λh=>?_))
   .refine sk (ak (aj (ak (cP ?_))));refine dm ?_;refine dm ?_;obtain⟨x7,j,h⟩:=aa h;refine db (aX (t:=Tl) rfl rW ii j) ?_;refine da (ap (t:=Tl) rfl ii rfl) ?_;refine da (vc rfl rfl iE) ?_;refine da (aG rfl fH) ?_;refine ea 0 (ax rfl cG o9 rfl) ?_;refine df ew ?_;refine jb (eL rfl) ?_;refine nt (cn h (λh=>?_) (λh=>?_))
    .refine sr (cq (nt (ay (br (bD (bC ?_))))));obtain rfl:=hR _ h;exact ra
    .refine be (aR (tn (ab (mq ?_))));obtain⟨x8,c,h⟩:=aa h;refine jb (bA rfl c) ?_;refine aq (nl ?_);exact jz ((),x8) h [0]
   .refine xa ?_;exact jz ((),()) h []
  .refine sr (cq (nt (ay ?_)));cases h;exact ra
def ij(k:Nat)(a0:(List Int)):Nat->(Int×Int)->Option Int
 |0,_=>none
 |n+1,y4=>
  if y4.2 < (a0.length:Int) then((aU a0 y4.2).bind λx6=>
  (ck (y4.2+1)).bind λx7=>
  ij k a0 n (Gg y4.1 x6,x7)) else(some y4.1)
def lb(k:Nat)(a0:(List Int)):Option Int:=
 if(a0.length:Int) < 1 then(none) else((aU a0 0).bind λx1=>
 ((ij k a0 k (x1,1)):Option (Int)).bind λx2=>
 some x2)
theorem nh(k:Nat)(a0:(List Int))(r:Int)(h:lb k a0=some r):
 dx Tryz.prog 45 [.rep Tl a0] [] (λ_:Unit=>(bI [I r],[])):=by
 unfold lb at h
 replace h:=bg h
 refine dx.of 25 Tryz.func45 rfl Tryz.ntmps45 rfl λS w0=>?_
 refine sr ?_
 refine cq ?_
 refine nt ?_
 refine ak ?_
 refine sr ?_
 refine mq ?_
 refine ol iE ?_
 refine jb (bJ rfl) ?_
 refine nt ?_
 refine ci h (λh=>?_) (λh=>?_)
 .
  cases h
 .
  refine sk (sr (mq ?_));obtain⟨x1,j,h⟩:=aa h;refine jb (aX (t:=Ti) rfl iE cG j) ?_;refine ja (ap (t:=Ti) rfl cG rfl) ?_;refine aq (nt ?_);refine aH (Z:=Unit) (α:=Int) (λz3 x2=>[(3,I x2)]) (λz3 x2=>[]) h (λK h=>?_) (λz3 x2 h=>?_)
  .refine sr (cq (nt (aj ?_)));refine aF (λz5 y4=>[(0,.rep Tl a0),(3,I y4.1),(4,I y4.2)]) (λz5 y4=>[]) (ij k a0) k () (x1,1) (λ_=>rfl) h (SE.fin [] ⟨rfl,rfl,rfl,trivial⟩ rfl) (λn z5 y4 h=>?_);unfold ij at h;refine ak (sr ?_);iterate 2 refine mq ?_
   refine ol iE ?_;refine jb (bJ rfl) ?_;refine nt (ci h (λh=>?_) (λh=>?_))
   .refine sk (ak (aj (ab ?_)));iterate 3 refine mq ?_
    obtain⟨x6,e,h⟩:=aa h;refine jb (aX (t:=Ti) rfl iE cG e) ?_;refine ja (ap (t:=Ti) rfl cG rfl) ?_;refine jb (Oe rfl rfl) ?_;refine aq (aE (aR (tn (ab ?_))));refine mq ?_;obtain⟨x7,c,h⟩:=aa h;refine jb (bA rfl c) ?_;refine aq (nl ?_);exact jz ((),(Gg y4.1 x6,x7)) h []
   .refine xa ?_;exact jz ((),y4.1) h []
  .refine sr (mq ?_);refine aq (nt (ay ?_));cases h;exact ra
def ik(k:Nat)(a0:(List Int)):Nat->(Int×Int)->Option Int
 |0,_=>none
 |n+1,y4=>
  if y4.2 < (a0.length:Int) then((aU a0 y4.2).bind λx6=>
  (ck (y4.2+1)).bind λx7=>
  ik k a0 n (mz y4.1 x6,x7)) else(some y4.1)
def ni(k:Nat)(a0:(List Int)):Option Int:=
 if(a0.length:Int) < 1 then(none) else((aU a0 0).bind λx1=>
 ((ik k a0 k (x1,1)):Option (Int)).bind λx2=>
 some x2)
theorem sY(k:Nat)(a0:(List Int))(r:Int)(h:ni k a0=some r):
 dx Tryz.prog 46 [.rep Tl a0] [] (λ_:Unit=>(bI [I r],[])):=by
 unfold ni at h
 replace h:=bg h
 refine dx.of 25 Tryz.func46 rfl Tryz.ntmps46 rfl λS w0=>?_
 refine sr ?_
 refine cq ?_
 refine nt ?_
 refine ak ?_
 refine sr ?_
 refine mq ?_
 refine ol iE ?_
 refine jb (bJ rfl) ?_
 refine nt ?_
 refine ci h (λh=>?_) (λh=>?_)
 .
  cases h
 .
  refine sk (sr (mq ?_));obtain⟨x1,j,h⟩:=aa h;refine jb (aX (t:=Ti) rfl iE cG j) ?_;refine ja (ap (t:=Ti) rfl cG rfl) ?_;refine aq (nt ?_);refine aH (Z:=Unit) (α:=Int) (λz3 x2=>[(3,I x2)]) (λz3 x2=>[]) h (λK h=>?_) (λz3 x2 h=>?_)
  .refine sr (cq (nt (aj ?_)));refine aF (λz5 y4=>[(0,.rep Tl a0),(3,I y4.1),(4,I y4.2)]) (λz5 y4=>[]) (ik k a0) k () (x1,1) (λ_=>rfl) h (SE.fin [] ⟨rfl,rfl,rfl,trivial⟩ rfl) (λn z5 y4 h=>?_);unfold ik at h;refine ak (sr ?_);iterate 2 refine mq ?_
   refine ol iE ?_;refine jb (bJ rfl) ?_;refine nt (ci h (λh=>?_) (λh=>?_))
   .refine sk (ak (aj (ab ?_)));iterate 3 refine mq ?_
    obtain⟨x6,e,h⟩:=aa h;refine jb (aX (t:=Ti) rfl iE cG e) ?_;refine ja (ap (t:=Ti) rfl cG rfl) ?_;refine jb (AX rfl rfl) ?_;refine aq (aE (aR (tn (ab ?_))));refine mq ?_;obtain⟨x7,c,h⟩:=aa h;refine jb (bA rfl c) ?_;refine aq (nl ?_);exact jz ((),(mz y4.1 x6,x7)) h []
   .refine xa ?_;exact jz ((),y4.1) h []
  .refine sr (mq ?_);refine aq (nt (ay ?_));cases h;exact ra
def jT(k:Nat)(a0:Int):Option Int:=
 (iq k a0).bind λr1=>
 some (r1.length:Int)
theorem mO(k:Nat)(a0:Int)(r:Int)(h:jT k a0=some r):
 dx Tryz.prog 58 [.eq (.int .u8 a0)] [] (λ_:Unit=>(bI [I r],[])):=by
 unfold jT at h
 replace h:=bg h
 refine dx.of 6 Tryz.func58 rfl Tryz.ntmps58 rfl λS w0=>?_
 refine sr ?_
 refine cq ?_
 refine nt ?_
 refine sr ?_
 refine mq ?_
 obtain⟨r1,c,h⟩:=aa h
 have e:=jJ k a0 r1 c
 refine ja (av [.tmp 3] rfl rfl MM rfl e) ?_
 refine ol iE ?_
 refine aq ?_
 refine nt ?_
 refine ay ?_
 cases h
 exact ra
def mm(k:Nat)(a0:Int)(a1:Int):Option Int:=
 (jT k a0).bind λr1=>
 (jT k a1).bind λr2=>
 (ck (r1 - r2)).bind λx3=>
 some x3
theorem sd(k:Nat)(a0:Int)(a1:Int)(c:Nat)(r:Int)(h:mm k a0 a1=some r):
 dx Tryz.prog 85 [.eq (.int .u8 a0),.eq (.int .u8 a1),Pt c] [.obj c 102 (.eq (.func (.func 58) #[] #[]))] (λ_:Unit=>(bI [I r],[.obj c 102 (.eq (.func (.func 58) #[] #[]))])):=by
 unfold mm at h
 replace h:=bg h
 refine dx.of 13 Tryz.func85 rfl Tryz.ntmps85 rfl λS w0=>?_
 refine sr ?_
 refine cq ?_
 refine nt ?_
 refine ak ?_
 refine cP ?_
 refine ea 0 (ax rfl KF o9 rfl) ?_
 refine dm ?_
 obtain⟨r1,l,h⟩:=aa h
 have s:=mO k a0 r1 l
 refine db (sF (fs:=[]) (cs:=[]) (ags:=[.eq (.int .u8 a0)]) [.tmp 7] rfl rfl OT rfl s) ?_
 refine ea 0 (ax rfl KF o9 rfl) ?_
 refine dm ?_
 refine df ew ?_
 obtain⟨r2,j,h⟩:=aa h
 have n:=mO k a1 r2 j
 refine jb (sF (fs:=[]) (cs:=[]) (ags:=[.eq (.int .u8 a1)]) [.tmp 10] rfl rfl OT rfl n) ?_
 obtain⟨x3,e,h⟩:=aa h
 refine jb (eI rfl e) ?_
 refine aq ?_
 refine nt ?_
 refine ay ?_
 cases h
 exact aM () [_] 1 ⟨rfl,trivial⟩ rfl
def fh(k:Nat)(a0:(List Int)):Nat->(Int×Int)->Option Int
 |0,_=>none
 |n+1,y4=>
  if y4.2 < (a0.length:Int) then((((aU a0 y4.2).bind λx8=>
  (mm k x8 y4.1).bind λr9=>
  if r9 < 0 then((aU a0 y4.2).bind λe=>
  some e) else(some y4.1)):Option (Int)).bind λx6=>
  (ck (y4.2+1)).bind λc=>
  fh k a0 n (x6,c)) else(some y4.1)
def jE(k:Nat)(a0:(List Int)):Option Int:=
 if(a0.length:Int) < 1 then(none) else((aU a0 0).bind λx1=>
 ((fh k a0 k (x1,1)):Option (Int)).bind λx2=>
 some x2)
theorem oZ(k:Nat)(a0:(List Int))(c_a1_0:Nat)(r:Int)(h:jE k a0=some r):
 dx Tryz.prog 84 [.rep (.slice (.int .u8)) a0,.eq (.func (.func 85) #[] #[(Pv c_a1_0)])] [.obj c_a1_0 102 (.eq (.func (.func 58) #[] #[]))] (λ_:Unit=>(bI [.eq (.int .u8 r)],[.obj c_a1_0 102 (.eq (.func (.func 58) #[] #[]))])):=by
 unfold jE at h
 replace h:=bg h
 refine dx.of 33 Tryz.func84 rfl Tryz.ntmps84 rfl λS w0=>?_
 refine sr ?_
 refine cq ?_
 refine nt ?_
 refine ak ?_
 refine sr ?_
 refine mq ?_
 refine ol zk ?_
 refine jb (bJ rfl) ?_
 refine nt ?_
 refine ci h (λh=>?_) (λh=>?_)
 .
  cases h
 .
  refine sk (sr (mq ?_));obtain⟨x1,u,h⟩:=aa h;refine jb (aX (t:=(.int .u8)) rfl zk oU u) ?_;refine ja (ap (t:=(.int .u8)) rfl oU rfl) ?_;refine aq (nt ?_);refine aH (Z:=Unit) (α:=Int) (λz3 x2=>[(5,.eq (.int .u8 x2))]) (λz3 x2=>[.obj c_a1_0 102 (.eq (.func (.func 58) #[] #[]))]) h (λK h=>?_) (λz3 x2 h=>?_)
  .refine sr (cq (nt (aj ?_)));refine aF (λz5 y4=>[(0,.rep (.slice (.int .u8)) a0),(1,.eq (.func (.func 85) #[] #[(Pv c_a1_0)])),(5,.eq (.int .u8 y4.1)),(6,I y4.2)]) (λz5 y4=>[.obj c_a1_0 102 (.eq (.func (.func 58) #[] #[]))]) (fh k a0) k () (x1,1) (λ_=>rfl) h (SE.fin [0] ⟨rfl,rfl,rfl,rfl,trivial⟩ rfl) (λn z5 y4 h=>?_);unfold fh at h;refine ak (sr ?_);iterate 2 refine mq ?_
   refine ol zk ?_;refine jb (bJ rfl) ?_;refine nt (ci h (λh=>?_) (λh=>?_))
   .refine sk (aH (Z:=Unit) (α:=Int) (λz7 x6=>[(0,.rep (.slice (.int .u8)) a0),(1,.eq (.func (.func 85) #[] #[(Pv c_a1_0)])),(5,.eq (.int .u8 x6)),(6,I y4.2)]) (λz7 x6=>[.obj c_a1_0 102 (.eq (.func (.func 58) #[] #[]))]) h (λK h=>?_) (λz7 x6 h=>?_))
    .refine aj (sr ?_);iterate 3 refine mq ?_
     obtain⟨x8,s,h⟩:=aa h;refine jb (aX (t:=(.int .u8)) rfl zk oU s) ?_;refine ja (ap (t:=(.int .u8)) rfl oU rfl) ?_;refine mq ?_;obtain⟨r9,x,h⟩:=aa h;refine kc (sF (fs:=[]) (cs:=[(Pv c_a1_0)]) (ags:=[.eq (.int .u8 x8),.eq (.int .u8 y4.1)]) [.tmp 24,.tmp 25] rfl rfl QH rfl (sd k x8 y4.1 c_a1_0 r9 x)) ?_;refine jb (bJ rfl) ?_;refine nt (ci h (λh=>?_) (λh=>?_))
     .refine ab ?_;iterate 2 refine mq ?_
      obtain⟨l,e,h⟩:=aa h;refine jb (aX (t:=(.int .u8)) rfl zk oU e) ?_;refine ja (ap (t:=(.int .u8)) rfl oU rfl) ?_;refine aq (aE (bn ?_));exact jz ((),l) h [0]
     .refine be (bn ?_);exact jz ((),y4.1) h [0]
    .refine ab (mq ?_);obtain⟨j,c,h⟩:=aa h;refine jb (bA rfl c) ?_;refine aq (nl ?_);exact jz ((),(x6,j)) h [0]
   .refine xa ?_;exact jz ((),y4.1) h [0]
  .refine sr (mq ?_);refine aq (nt (ay ?_));cases h;exact aM () [_] 1 ⟨rfl,trivial⟩ rfl
def pj(k:Nat)(a0:(List Int)):Option Int:=
 (jE k a0).bind λr2=>
 some r2
theorem uA(k:Nat)(a0:(List Int))(r:Int)(h:pj k a0=some r):
 dx Tryz.prog 57 [.rep (.slice (.int .u8)) a0,.eq (.func (.func 58) #[] #[])] [] (λ_:Unit=>(bI [.eq (.int .u8 r)],[])):=by
 unfold pj at h
 replace h:=bg h
 refine dx.of 8 Tryz.func57 rfl Tryz.ntmps57 rfl λS w0=>?_
 refine sr ?_
 refine bx λb1=>?_
 refine cq ?_
 refine nt ?_
 refine sr ?_
 refine mq ?_
 refine ja (qP [] [.tmp 3] [] [(Pv b1)] rfl rfl rfl) ?_
 obtain⟨r2,c,h⟩:=aa h
 have e:=oZ k a0 b1 r2 c
 refine kb (av [.tmp 5,.tmp 6] rfl rfl QI rfl e) ?_
 refine aq ?_
 refine nt ?_
 refine ay ?_
 cases h
 exact ra
def gW(k:Nat)(a0:(List Int))(a1:(List Int)):Nat->Int->Option (Except Bool Unit)
 |0,_=>none
 |n+1,y3=>
  if y3 < (a0.length:Int) then((aU a0 y3).bind λx5=>
  (aU a1 y3).bind λx6=>
  if¬(x5=x6) then(some (.error false)) else((ck (y3+1)).bind λx7=>
  gW k a0 a1 n x7)) else(some (.ok ()))
def iy(k:Nat)(a0:(List Int))(a1:(List Int)):Option Bool:=
 if¬((a0.length:Int)=(a1.length:Int)) then(some false) else(bE (α:=Unit) (gW k a0 a1 k 0) (some) λ_=>
 some true)
theorem jL(k:Nat)(a0:(List Int))(a1:(List Int))(r:Bool)(h:iy k a0 a1=some r):
 dx Tryz.prog 26 [.rep Tl a0,.rep Tl a1] [] (λ_:Unit=>(bI [.eq (.bool r)],[])):=by
 unfold iy at h
 replace h:=bg h
 refine dx.of 26 Tryz.func26 rfl Tryz.ntmps26 rfl λS w0=>?_
 refine sr ?_
 refine cq ?_
 refine nt ?_
 refine ak ?_
 refine sr ?_
 refine mq ?_
 refine ol iE ?_
 refine mq ?_
 refine ol iE ?_
 refine jb (eL rfl) ?_
 refine nt ?_
 refine cn h (λh=>?_) (λh=>?_)
 .
  refine sr (cq (nt (rx ?_)));cases h;exact ra
 .
  refine sk (dw (Z:=Unit) (α:=Unit) (λz2 x1=>[]) (λz2 x1=>[]) (λe=>e=r) h (λe h=>Option.some.inj h) (λK hR h=>?_) (λz2 x1 h=>?_))
  .refine sr (cq (nt (aj ?_)));refine aF (λz4 y3=>[(0,.rep Tl a0),(1,.rep Tl a1),(5,I y3)]) (λz4 y3=>[]) (gW k a0 a1) k () 0 (λ_=>rfl) h (SE.fin [] ⟨rfl,rfl,rfl,trivial⟩ rfl) (λn z4 y3 h=>?_);unfold gW at h;refine ak (sr ?_);iterate 2 refine mq ?_
   refine ol iE ?_;refine jb (bJ rfl) ?_;refine nt (ci h (λh=>?_) (λh=>?_))
   .refine sk (ak (aj (ak (cP ?_))));refine dm ?_;refine dm ?_;obtain⟨x5,l,h⟩:=aa h;refine db (aX (t:=Ti) rfl iE cG l) ?_;refine da (ap (t:=Ti) rfl cG rfl) ?_;refine dm ?_;refine dm ?_;obtain⟨x6,j,h⟩:=aa h;refine db (aX (t:=Ti) rfl iE cG j) ?_;refine da (ap (t:=Ti) rfl cG rfl) ?_;refine df ew ?_;refine jb (eL rfl) ?_;refine nt (cn h (λh=>?_) (λh=>?_))
    .refine sr (cq (nt (ay (br (bD (bC ?_))))));obtain rfl:=hR _ h;exact ra
    .refine be (aR (tn (ab (mq ?_))));obtain⟨x7,c,h⟩:=aa h;refine jb (bA rfl c) ?_;refine aq (nl ?_);exact jz ((),x7) h []
   .refine xa ?_;exact jz ((),()) h []
  .refine sr (cq (nt (ay ?_)));cases h;exact ra
def fg(k:Nat):Nat->((List Int)×Int×Int)->Option (List Int)
 |0,_=>none
 |n+1,y2=>
  if y2.2.1 < y2.2.2 then((aU y2.1 y2.2.2).bind λx4=>
  (aU y2.1 y2.2.1).bind λx5=>
  (aU y2.1 y2.2.1).bind λx6=>
  (aU (List.set y2.1 (Int.toNat y2.2.1) x4) y2.2.2).bind λx7=>
  (ck (y2.2.1+1)).bind λx8=>
  (ck (y2.2.2 - 1)).bind λx9=>
  fg k n (List.set (List.set y2.1 (Int.toNat y2.2.1) x4) (Int.toNat y2.2.2) x5,x8,x9)) else(some y2.1)
def jD(k:Nat)(a0:(List Int)):Option (List Int):=
 (ck ((a0.length:Int) - 1)).bind λx1=>
 fg k k (a0,0,x1)
theorem oY(k:Nat)(a0:(List Int))(c:Value)(r:(List Int))(h:jD k a0=some r):
 dx Tryz.prog 67 [.eq c] [.sl c 3 Ti a0] (λ_:Unit=>(bI [],[.sl c 3 Ti r])):=by
 unfold jD at h
 replace h:=bg h
 refine dx.of 28 Tryz.func67 rfl Tryz.ntmps67 rfl λS w0=>?_
 refine sr ?_
 refine mq ?_
 refine ka (lR rfl rfl iE) ?_
 obtain⟨x1,mc,h⟩:=aa h
 refine jb (eI rfl mc) ?_
 refine cq ?_
 refine aq ?_
 refine nt ?_
 refine aj ?_
 refine aF (λz3 y2=>[(0,.eq c),(2,I y2.2.1),(3,I y2.2.2)]) (λz3 y2=>[.sl c 3 Ti y2.1]) (fg k) k () (a0,0,x1) (λ_=>rfl) h (SE.fin [0] ⟨rfl,rfl,rfl,trivial⟩ rfl) (λn z3 y2 h=>?_)
 unfold fg at h
 refine ak ?_
 refine sr ?_
 iterate 2 refine mq ?_
 refine jb (bJ rfl) ?_
 refine nt ?_
 refine ci h (λh=>?_) (λh=>?_)
 .
  refine sk (ak (aj (qC ?_)));refine cu rfl rfl rfl (bK rfl) ⟨rfl,trivial⟩ ?_;refine cu rfl rfl rfl (bK rfl) ⟨rfl,trivial⟩ ?_;refine cu rfl rfl rfl (bK rfl) ⟨rfl,trivial⟩ ?_;refine cu rfl rfl rfl (bK rfl) ⟨rfl,trivial⟩ ?_;refine cu rfl rfl rfl (bK rfl) ⟨rfl,trivial⟩ ?_;refine cu rfl rfl rfl (bK rfl) ⟨rfl,trivial⟩ ?_;obtain⟨x4,D,h⟩:=aa h;refine iI 0 rfl rfl rfl rfl (cx (t:=Ti) rfl iE cG D) ⟨rfl,rfl,trivial⟩ ?_;refine iI 0 rfl rfl rfl rfl (f9 (i:=Int.toNat y2.2.2) (off:=0) rfl cG (λ_=>rfl) rfl (dp D).2.2 rfl) ⟨rfl,trivial⟩ ?_;refine cu rfl rfl rfl (bK rfl) ⟨rfl,trivial⟩ ?_;refine cu rfl rfl rfl (bK rfl) ⟨rfl,trivial⟩ ?_;obtain⟨x5,y,h⟩:=aa h;refine iI 0 rfl rfl rfl rfl (cx (t:=Ti) rfl iE cG y) ⟨rfl,rfl,trivial⟩ ?_;refine iI 0 rfl rfl rfl rfl (f9 (i:=Int.toNat y2.2.1) (off:=0) rfl cG (λ_=>rfl) rfl (dp y).2.2 rfl) ⟨rfl,trivial⟩ ?_;obtain⟨x6,x,h⟩:=aa h;refine iI 0 rfl rfl rfl rfl (cx (t:=Ti) rfl iE cG x) ⟨rfl,rfl,trivial⟩ ?_;refine xe 13 [true,true,false,false,true,true,true,true,true,true,true,true,true] [27] [] [] rfl (by kernel_rfl) (by kernel_rfl) (by kernel_rfl) ew (λvs hv hB=>?_);obtain⟨w0,SJ,rfl,Y⟩:=aD hv;obtain⟨w1,SI,rfl,X⟩:=aD Y;obtain⟨w2,SH,rfl,U⟩:=aD X;obtain⟨w3,SG,rfl,Q⟩:=aD U;obtain⟨w4,SD,rfl,O⟩:=aD Q;obtain⟨w5,SC,rfl,M⟩:=aD O;obtain⟨w6,SB,rfl,J⟩:=aD M;obtain⟨w7,SA,rfl,F⟩:=aD J;obtain⟨w8,Sz,rfl,E⟩:=aD F;obtain⟨w9,Si,rfl,s⟩:=aD E;obtain⟨Sr,zz,rfl,l⟩:=aD s;obtain⟨Sl,qt,rfl,j⟩:=aD l;obtain⟨Sj,mw,rfl,e⟩:=aD j;obtain rfl:=sJ e;refine⟨[0],[.sl c 3 Ti y2.1],by kernel_rfl,by decide,?_⟩;refine rM rfl rfl (fS (i:=Int.toNat y2.2.1) rfl cG rfl (mA x) rfl .int rfl) ⟨rfl,rfl,trivial⟩ (by kernel_rfl) ?_;obtain⟨x7,u,h⟩:=aa h;refine AG rfl rfl rfl rfl (cx (t:=Ti) rfl iE cG u) ⟨rfl,rfl,trivial⟩ (by kernel_rfl) ?_;refine rM rfl rfl (fS (i:=Int.toNat y2.2.2) rfl cG rfl (mA u) rfl .int rfl) ⟨rfl,rfl,trivial⟩ (by kernel_rfl) ?_;refine xb ?_;refine ce (SE.fin (Γ':=[(0,.eq c),(2,I y2.2.1),(3,I y2.2.2)]) (Δ':=[.sl c 3 Ti (List.set (List.set y2.1 (Int.toNat y2.2.1) x4) (Int.toNat y2.2.2) x5)]) [0] ⟨rfl,rfl,rfl,trivial⟩ rfl) ?_;refine aR (tn (ab (mq ?_)));obtain⟨x8,gw,h⟩:=aa h;refine jb (bA rfl gw) ?_;refine mq ?_;obtain⟨x9,Z,h⟩:=aa h;refine jb (eI rfl Z) ?_;refine aq ?_;refine aq (nl ?_);exact jz ((),(List.set (List.set y2.1 (Int.toNat y2.2.1) x4) (Int.toNat y2.2.2) x5,x8,x9)) h [0]
 .
  refine fP (bQ (bQ (c8 (jB ?_))));cases h;exact aM () [] 1 trivial rfl
def kK(k:Nat)(a0:Int)(a1:Int)(a2:Bool):Option cC:=
 some (a0,a1,a2)
theorem lE(k:Nat)(a0:Int)(a1:Int)(a2:Bool)(r:cC)(h:kK k a0 a1 a2=some r):
 dx Tryz.prog 31 [I a0,I a1,.eq (.bool a2)] [] (λ_:Unit=>(bI [.rep bN r],[])):=by
 unfold kK at h
 replace h:=bg h
 refine dx.of 11 Tryz.func31 rfl Tryz.ntmps31 rfl λS w0=>?_
 refine sr ?_
 refine aY rfl rfl rfl (bz rfl HL M8) trivial λb1=>?_
 refine nt ?_
 refine sr ?_
 iterate 3 refine mq ?_
 refine jc (dO [(0,.tmp 7,_),(1,.tmp 8,_),(2,.tmp 9,_)] rfl Qe HL Pj (jO ⟨rfl,rfl,rfl,trivial⟩) rfl) ?_
 refine aS rfl rfl (aO rfl vS trivial rfl rfl) ⟨rfl,rfl,trivial⟩ ?_
 refine nt ?_
 refine ay ?_
 refine ce (jg (a:=.agg (.pair (I a0) (.pair (I a1) (.eq (.bool a2))))) (a':=.rep bN (a0,a1,a2)) (rP (.agg (.pair .int (.pair .int .bool))))) ?_
 cases h
 exact aM () [.rep bN (a0,a1,a2)] 0 ⟨⟨_,_,_,_,_,rfl,(.head _),vS,(uc),rfl⟩,trivial⟩ rfl
def hP(k:Nat)(a0:(List cC)):Option ah:=
 (kK k 1 2 true).bind λr2=>
 (kK k 2 1 false).bind λr3=>
 (kK k 3 3 false).bind λr4=>
 (cO (cE (length [r2,r3,r4]+length a0))).bind λ_=>
 some (4,1,1,2,[[[0,1,2],[3]],[[0,1],[2,3]],[[1,2,3]],[[1,3],[2]]],[r2,r3,r4]++a0)
theorem gf(k:Nat)(a0:(List cC))(r:ah)(h:hP k a0=some r):
 dx Tryz.prog 47 [Rs bN a0] [] (λ_:Unit=>(bI [.rep au r],[])):=by
 unfold hP at h
 replace h:=bg h
 refine dx.of 24 Tryz.func47 rfl Tryz.ntmps47 rfl λS w0=>?_
 refine sr ?_
 refine aY rfl rfl rfl (bz rfl Cj JL) trivial λb1=>?_
 refine nt ?_
 refine sr ?_
 obtain⟨r2,l,h⟩:=aa h
 have u:=lE k 1 2 true r2 l
 refine jc (av [.const (.int .i64 (1)),.const (.int .i64 (2)),.const (.bool true)] rfl rfl MN rfl u) ?_
 obtain⟨r3,j,h⟩:=aa h
 have s:=lE k 2 1 false r3 j
 refine jc (av [.const (.int .i64 (2)),.const (.int .i64 (1)),.const (.bool false)] rfl rfl MN rfl s) ?_
 obtain⟨r4,e,h⟩:=aa h
 have n:=lE k 3 3 false r4 e
 refine jc (av [.const (.int .i64 (3)),.const (.int .i64 (3)),.const (.bool false)] rfl rfl MN rfl n) ?_
 refine aY rfl rfl rfl (mf (t:=bN) [(.tmp 4,_),(.tmp 5,_),(.tmp 6,_)] [r2,r3,r4] rfl rfl N3 (.cons rfl .rep (.cons rfl .rep (.cons rfl .rep .nil))) rfl rfl) ⟨rfl,rfl,rfl,trivial⟩ λv5=>?_
 refine aq ?_
 refine nt ?_
 refine sr ?_
 refine jc (bb (t:=Ti) [(.const (.int .i64 (0)),_),(.const (.int .i64 (1)),_),(.const (.int .i64 (2)),_)] [0,1,2] rfl rfl dA (.cons rfl .int (.cons rfl .int (.cons rfl .int .nil))) rfl rfl) ?_
 refine ja (bb (t:=Ti) [(.const (.int .i64 (3)),_)] [3] rfl rfl dA (.cons rfl .int .nil) rfl rfl) ?_
 refine jb (bb (t:=Tl) [(.tmp 8,_),(.tmp 9,_)] [[0,1,2],[3]] rfl rfl oz (.cons rfl .rep (.cons rfl .rep .nil)) rfl rfl) ?_
 refine jb (bb (t:=Ti) [(.const (.int .i64 (0)),_),(.const (.int .i64 (1)),_)] [0,1] rfl rfl dA (.cons rfl .int (.cons rfl .int .nil)) rfl rfl) ?_
 refine jb (bb (t:=Ti) [(.const (.int .i64 (2)),_),(.const (.int .i64 (3)),_)] [2,3] rfl rfl dA (.cons rfl .int (.cons rfl .int .nil)) rfl rfl) ?_
 refine jb (bb (t:=Tl) [(.tmp 11,_),(.tmp 12,_)] [[0,1],[2,3]] rfl rfl oz (.cons rfl .rep (.cons rfl .rep .nil)) rfl rfl) ?_
 refine jc (bb (t:=Ti) [(.const (.int .i64 (1)),_),(.const (.int .i64 (2)),_),(.const (.int .i64 (3)),_)] [1,2,3] rfl rfl dA (.cons rfl .int (.cons rfl .int (.cons rfl .int .nil))) rfl rfl) ?_
 refine ja (bb (t:=Tl) [(.tmp 14,_)] [[1,2,3]] rfl rfl oz (.cons rfl .rep .nil) rfl rfl) ?_
 refine jb (bb (t:=Ti) [(.const (.int .i64 (1)),_),(.const (.int .i64 (3)),_)] [1,3] rfl rfl dA (.cons rfl .int (.cons rfl .int .nil)) rfl rfl) ?_
 refine ja (bb (t:=Ti) [(.const (.int .i64 (2)),_)] [2] rfl rfl dA (.cons rfl .int .nil) rfl rfl) ?_
 refine jb (bb (t:=Tl) [(.tmp 16,_),(.tmp 17,_)] [[1,3],[2]] rfl rfl oz (.cons rfl .rep (.cons rfl .rep .nil)) rfl rfl) ?_
 refine bT rfl (bb (t:=(.slice Tl)) [(.tmp 10,_),(.tmp 13,_),(.tmp 15,_),(.tmp 18,_)] [[[0,1,2],[3]],[[0,1],[2,3]],[[1,2,3]],[[1,3],[2]]] rfl rfl zB (.cons rfl .rep (.cons rfl .rep (.cons rfl .rep (.cons rfl .rep .nil)))) rfl rfl) ⟨rfl,rfl,rfl,rfl,trivial⟩ ?_
 iterate 2 refine mq ?_
 obtain⟨u6,c,h⟩:=aa h
 refine dV rfl rfl rfl (cI rfl rfl N3 (am c)) ⟨rfl,rfl,trivial⟩ λv7=>?_
 refine eC (iG [22] ⟨rfl,trivial⟩) ?_
 refine bT rfl (dO [(0,.const (.int .i64 (4)),_),(1,.const (.int .i64 (1)),_),(2,.const (.int .i64 (1)),_),(3,.const (.int .i64 (2)),_),(4,.tmp 19,_),(5,.tmp 22,_)] rfl N7 Cj KU (jO ⟨rfl,rfl,rfl,rfl,rfl,rfl,trivial⟩) rfl) ⟨rfl,rfl,rfl,rfl,rfl,rfl,trivial⟩ ?_
 refine aS rfl rfl (aO rfl iM trivial rfl rfl) ⟨rfl,rfl,trivial⟩ ?_
 refine nt ?_
 refine ay ?_
 refine ce (jg (a:=.agg (.pair (I 4) (.pair (I 1) (.pair (I 1) (.pair (I 2) (.pair (.rep (.slice (.slice Tl)) [[[0,1,2],[3]],[[0,1],[2,3]],[[1,2,3]],[[1,3],[2]]]) (Rs bN ([r2,r3,r4]++a0)))))))) (a':=.rep au (4,1,1,2,[[[0,1,2],[3]],[[0,1],[2,3]],[[1,2,3]],[[1,3],[2]]],[r2,r3,r4]++a0)) (rP (.agg (.pair .int (.pair .int (.pair .int (.pair .int (.pair .rep .rep)))))))) ?_
 cases h
 exact aM () [.rep au (4,1,1,2,[[[0,1,2],[3]],[[0,1],[2,3]],[[1,2,3]],[[1,3],[2]]],[r2,r3,r4]++a0)] 0 ⟨⟨_,_,_,_,_,rfl,(.head _),iM,(uc),rfl⟩,trivial⟩ rfl
def gh(k:Nat)(a0:(List (List Int)))(a1:(List (List Int))):Nat->Int->Option (Except Bool Unit)
 |0,_=>none
 |n+1,y3=>
  if y3 < (a0.length:Int) then((aU a0 y3).bind λx5=>
  (aU a1 y3).bind λx6=>
  (iy k x5 x6).bind λr7=>
  if¬(r7=true) then(some (.error false)) else((ck (y3+1)).bind λx8=>
  gh k a0 a1 n x8)) else(some (.ok ()))
def jf(k:Nat)(a0:(List (List Int)))(a1:(List (List Int))):Option Bool:=
 if¬((a0.length:Int)=(a1.length:Int)) then(some false) else(bE (α:=Unit) (gh k a0 a1 k 0) (some) λ_=>
 some true)
theorem lW(k:Nat)(a0:(List (List Int)))(a1:(List (List Int)))(r:Bool)(h:jf k a0 a1=some r):
 dx Tryz.prog 49 [.rep (.slice Tl) a0,.rep (.slice Tl) a1] [] (λ_:Unit=>(bI [.eq (.bool r)],[])):=by
 unfold jf at h
 replace h:=bg h
 refine dx.of 27 Tryz.func49 rfl Tryz.ntmps49 rfl λS w0=>?_
 refine sr ?_
 refine cq ?_
 refine nt ?_
 refine ak ?_
 refine sr ?_
 refine mq ?_
 refine ol rW ?_
 refine mq ?_
 refine ol rW ?_
 refine jb (eL rfl) ?_
 refine nt ?_
 refine cn h (λh=>?_) (λh=>?_)
 .
  refine sr (cq (nt (rx ?_)));cases h;exact ra
 .
  refine sk (dw (Z:=Unit) (α:=Unit) (λz2 x1=>[]) (λz2 x1=>[]) (λe=>e=r) h (λe h=>Option.some.inj h) (λK hR h=>?_) (λz2 x1 h=>?_))
  .refine sr (cq (nt (aj ?_)));refine aF (λz4 y3=>[(0,.rep (.slice Tl) a0),(1,.rep (.slice Tl) a1),(5,I y3)]) (λz4 y3=>[]) (gh k a0 a1) k () 0 (λ_=>rfl) h (SE.fin [] ⟨rfl,rfl,rfl,trivial⟩ rfl) (λn z4 y3 h=>?_);unfold gh at h;refine ak (sr ?_);iterate 2 refine mq ?_
   refine ol rW ?_;refine jb (bJ rfl) ?_;refine nt (ci h (λh=>?_) (λh=>?_))
   .refine sk (ak (aj (ak (cP ?_))));refine dm ?_;refine dm ?_;obtain⟨x5,l,h⟩:=aa h;refine db (aX (t:=Tl) rfl rW ii l) ?_;refine da (ap (t:=Tl) rfl ii rfl) ?_;refine dm ?_;refine dm ?_;obtain⟨x6,j,h⟩:=aa h;refine db (aX (t:=Tl) rfl rW ii j) ?_;refine da (ap (t:=Tl) rfl ii rfl) ?_;refine df ew ?_;obtain⟨r7,s,h⟩:=aa h;refine jb (av [.tmp 20,.tmp 24] rfl rfl MO rfl (jL k x5 x6 r7 s)) ?_;refine ja (hH rfl) ?_;refine nt (cw h (λh=>?_) (λh=>?_))
    .refine sr (cq (nt (ay (br (bD (bC ?_))))));obtain rfl:=hR _ h;exact ra
    .refine be (aR (tn (ab (mq ?_))));obtain⟨x8,c,h⟩:=aa h;refine jb (bA rfl c) ?_;refine aq (nl ?_);exact jz ((),x8) h []
   .refine xa ?_;exact jz ((),()) h []
  .refine sr (cq (nt (ay ?_)));cases h;exact ra
def kh(k:Nat)(a0:(List Int))(a1:Int):Nat->Int->Option (Except Int Unit)
 |0,_=>none
 |n+1,y3=>
  if y3 < (a0.length:Int) then((aU a0 y3).bind λx5=>
  if x5=a1 then(some (.error y3)) else((ck (y3+1)).bind λx6=>
  kh k a0 a1 n x6)) else(some (.ok ()))
def ru(k:Nat)(a0:(List Int))(a1:Int):Option Int:=
 bE (α:=Unit) (kh k a0 a1 k 0) (some) λ_=>
 some (-1:Int)
theorem vk(k:Nat)(a0:(List Int))(a1:Int)(r:Int)(h:ru k a0 a1=some r):
 dx Tryz.prog 19 [.rep Tl a0,I a1] [] (λ_:Unit=>(bI [I r],[])):=by
 unfold ru at h
 replace h:=bg h
 refine dx.of 19 Tryz.func19 rfl Tryz.ntmps19 rfl λS w0=>?_
 refine sr ?_
 refine cq ?_
 refine nt ?_
 refine dw (Z:=Unit) (α:=Unit) (λz2 x1=>[]) (λz2 x1=>[]) (λe=>e=r) h (λe h=>Option.some.inj h) (λK hR h=>?_) (λz2 x1 h=>?_)
 .
  refine sr (cq (nt (aj ?_)));refine aF (λz4 y3=>[(0,.rep Tl a0),(1,I a1),(5,I y3)]) (λz4 y3=>[]) (kh k a0 a1) k () 0 (λ_=>rfl) h (SE.fin [] ⟨rfl,rfl,rfl,trivial⟩ rfl) (λn z4 y3 h=>?_);unfold kh at h;refine ak (sr ?_);iterate 2 refine mq ?_
  refine ol iE ?_;refine jb (bJ rfl) ?_;refine nt (ci h (λh=>?_) (λh=>?_))
  .refine sk (ak (aj (sr ?_)));iterate 2 refine mq ?_
   obtain⟨x5,j,h⟩:=aa h;refine jb (aX (t:=Ti) rfl iE cG j) ?_;refine ja (ap (t:=Ti) rfl cG rfl) ?_;refine mq ?_;refine jb (jk rfl) ?_;refine nt (ci h (λh=>?_) (λh=>?_))
   .refine sr (mq ?_);refine aq (nt (ay (br (bD (bC ?_)))));obtain rfl:=hR _ h;exact ra
   .refine be (aR (tn (ab (mq ?_))));obtain⟨x6,c,h⟩:=aa h;refine jb (bA rfl c) ?_;refine aq (nl ?_);exact jz ((),x6) h []
  .refine xa ?_;exact jz ((),()) h []
 .
  refine sr (cq (nt (ay ?_)));cases h;exact ra
def eQ(k:Nat)(a1:Int):Nat->((List Int)×Int×Int×(List Int)×Int)->Option ((List Int)×(List Int)×Int×Int)
 |0,_=>none
 |n+1,y3=>
  if y3.2.2.2.2 < a1 then((((eD k (y3.1,y3.2.1,y3.2.2.1) 3).bind λr7=>
  if r7.1=true then((cO (cE (length y3.2.2.2.1+length [y3.2.2.2.2]))).bind λ_=>
  some (r7.2.1,r7.2.2.1,r7.2.2.2,y3.2.2.2.1++[y3.2.2.2.2])) else(some (r7.2.1,r7.2.2.1,r7.2.2.2,y3.2.2.2.1))):Option ((List Int)×Int×Int×(List Int))).bind λx5=>
  (ck (y3.2.2.2.2+1)).bind λc=>
  eQ k a1 n (x5.1,x5.2.1,x5.2.2.1,x5.2.2.2,c)) else(some (y3.2.2.2.1,y3.1,y3.2.1,y3.2.2.1))
def ib(k:Nat)(a0:bP)(a1:Int):Option ((List Int)×bP):=
 ((eQ k a1 k (a0.1,a0.2.1,a0.2.2,([]:(List Int)),0)):Option ((List Int)×(List Int)×Int×Int)).bind λx1=>
 some (x1.1,(x1.2.1,x1.2.2.1,x1.2.2.2))
theorem nC(k:Nat)(a0:bP)(c:Nat)(a1:Int)(r:(List Int)×bP)(h:ib k a0 a1=some r):
 dx Tryz.prog 28 [Pt c,I a1] [.obj c 69 (.agg (.pair (.rep Tl a0.1) (.pair (I a0.2.1) (.eq (.int .u64 a0.2.2)))))] (λ_:Unit=>(bI [.rep Tl r.1],[.obj c 69 (.agg (.pair (.rep Tl r.2.1) (.pair (I r.2.2.1) (.eq (.int .u64 r.2.2.2)))))])):=by
 unfold ib at h
 replace h:=bg h
 refine dx.of 19 Tryz.func28 rfl Tryz.ntmps28 rfl λS w0=>?_
 refine sr ?_
 refine cq ?_
 refine nt ?_
 refine sr ?_
 refine cq ?_
 refine nt ?_
 refine aH (Z:=Value) (α:=(List Int)×(List Int)×Int×Int) (λz2 x1=>[(5,.eq z2)]) (λz2 x1=>[.sl z2 3 Ti x1.1,.obj c 69 (.agg (.pair (.rep Tl x1.2.1) (.pair (I x1.2.2.1) (.eq (.int .u64 x1.2.2.2)))))]) h (λK h=>?_) (λz2 x1 h=>?_)
 .
  refine sr (cq (nt (aj ?_)));refine iL (SE.nil 3 Ti) ?_;refine aF (λz4 y3=>[(0,Pt c),(1,I a1),(5,.eq z4),(6,I y3.2.2.2.2)]) (λz4 y3=>[.obj c 69 (.agg (.pair (.rep Tl y3.1) (.pair (I y3.2.1) (.eq (.int .u64 y3.2.2.1))))),.sl z4 3 Ti y3.2.2.2.1]) (eQ k a1) k (.slice none 0 0) (a0.1,a0.2.1,a0.2.2,([]:(List Int)),0) (λ_=>rfl) h (SE.fin [1,0] ⟨rfl,rfl,rfl,rfl,trivial⟩ rfl) (λn z4 y3 h=>?_);unfold eQ at h;refine ak (sr ?_);iterate 2 refine mq ?_
  refine jb (bJ rfl) ?_;refine nt (ci h (λh=>?_) (λh=>?_))
  .refine sk (aH (Z:=Value) (α:=(List Int)×Int×Int×(List Int)) (λz6 x5=>[(0,Pt c),(1,I a1),(5,.eq z6),(6,I y3.2.2.2.2)]) (λz6 x5=>[.obj c 69 (.agg (.pair (.rep Tl x5.1) (.pair (I x5.2.1) (.eq (.int .u64 x5.2.2.1))))),.sl z6 3 Ti x5.2.2.2]) h (λK h=>?_) (λz6 x5 h=>?_))
   .refine aj (sr (mq ?_));obtain⟨r7,s,h⟩:=aa h;refine kb (av [.tmp 12,.const (.int .i64 (3))] rfl rfl MI rfl (iT k (y3.1,y3.2.1,y3.2.2.1) c 3 r7 s)) ?_;refine nt (cv h (λh=>?_) (λh=>?_))
    .refine ab ?_;iterate 2 refine mq ?_
     refine ja (bb (t:=Ti) [(.tmp 15,_)] [y3.2.2.2.2] rfl rfl dA (.cons rfl .int .nil) rfl rfl) ?_;obtain⟨u8,l,h⟩:=aa h;refine fr 1 ?_;refine dV rfl rfl rfl (cI rfl rfl dA (am l)) ⟨rfl,rfl,trivial⟩ λv9=>?_;refine aq (aE (bn ?_));exact jz (v9,(r7.2.1,r7.2.2.1,r7.2.2.2,y3.2.2.2.1++[y3.2.2.2.2])) h [1,0]
    .refine be (bn ?_);exact jz (z4,(r7.2.1,r7.2.2.1,r7.2.2.2,y3.2.2.2.1)) h [0,1]
   .refine ab (mq ?_);obtain⟨j,e,h⟩:=aa h;refine jb (bA rfl e) ?_;refine aq (nl ?_);exact jz (z6,(x5.1,x5.2.1,x5.2.2.1,x5.2.2.2,j)) h [0,1]
  .refine xa ?_;exact jz (z4,(y3.2.2.2.1,y3.1,y3.2.1,y3.2.2.1)) h [1,0]
 .
  refine sr (mq ?_);refine aq (nt (ay ?_));refine ce (iG [4,5,18] ⟨rfl,rfl,rfl,trivial⟩) ?_;cases h;exact aM () [_] 1 ⟨rfl,trivial⟩ rfl
