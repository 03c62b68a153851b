import Derived.Test.YtcollhgigbijkaaGreatVBFacts
open Nat
open List hiding mem_of_getElem?
open Array hiding mem_of_getElem? mk
set_option linter.unusedSimpArgs false
set_option linter.unusedVariables false
set_option maxRecDepth 4000
set_option maxHeartbeats 1000000
namespace Go.Proofs.YtcollhgigbijkaaGreat
open K Go Go.Proofs
def gX(k:Nat)(a0:bT):Option (Int×bT):=
 ((if a0.2.1 < (a0.1.length:Int) then((aJ a0.1 a0.2.1).bind λx3=>
 some (IntKind.u64.wrap ((IntKind.u64.wrap ((IntKind.u64.wrap (a0.2.2 * 6364136223846793005))+1442695040888963407))+(IntKind.u64.wrap ((IntKind.u64.wrap x3) * 2862933555777941757))))) else(some (IntKind.u64.wrap ((IntKind.u64.wrap (a0.2.2 * 6364136223846793005))+1442695040888963407)))):Option (Int)).bind λx1=>
 (ck (a0.2.1+1)).bind λx4=>
 some (gZ .u64 (sa .u64 (IntKind.u64.wrap ((sa .u64 x1 (gZ .u64 x1 29)) * 2685821657736338717)) (gZ .u64 (IntKind.u64.wrap ((sa .u64 x1 (gZ .u64 x1 29)) * 2685821657736338717)) 32)) 8,(a0.1,x4,x1))
theorem rX(k:Nat)(a0:bT)(c:Nat)(r:Int×bT)(h:gX k a0=some r):
 dF Tryz.prog 51 [Pt c] [.obj c 69 (.agg (.pair (.rep Tl a0.1) (.pair (I a0.2.1) (.eq (.int .u64 a0.2.2)))))] (λ_:Unit=>(bJ [.eq (.int .u64 r.1)],[.obj c 69 (.agg (.pair (.rep Tl r.2.1) (.pair (I r.2.2.1) (.eq (.int .u64 r.2.2.2)))))])):=by
 unfold gX at h
 replace h:=bq h
 refine dF.of 67 Tryz.func51 rfl Tryz.ntmps51 rfl λS w0=>?_
 refine sr ?_
 refine cq ?_
 refine nt ?_
 refine sr ?_
 iterate 2 refine mq ?_
 refine ja (cI rfl) ?_
 refine fl sf ?_
 refine lo Dy ?_
 refine jb (AG rfl) ?_
 refine jb (Gt rfl) ?_
 refine ja (cI rfl) ?_
 refine fl sf ?_
 refine aW rfl rfl (aS rfl Dy rfl rfl rfl) ⟨rfl,rfl,trivial⟩ ?_
 refine nt ?_
 refine aG (Z:=Unit) (α:=Int) (λz2 x1=>[(0,Pt c)]) (λz2 x1=>[.obj c 69 (.agg (.pair (.rep Tl a0.1) (.pair (I a0.2.1) (.eq (.int .u64 x1)))))]) h (λK h=>?_) (λz2 x1 h=>?_)
 .
  refine ak (cP ?_);refine dm ?_;refine da (cI rfl) ?_;refine da (aK rfl xy) ?_;refine ea 0 (ay rfl bV pH rfl) ?_;refine dm ?_;refine da (cI rfl) ?_;refine da (aK rfl Hr) ?_;refine ea 0 (ay rfl gJ pH rfl) ?_;refine da (pi rfl rfl fM) ?_;refine df dN ?_;refine jb (bA rfl) ?_;refine nt (ci h (λh=>?_) (λh=>?_))
  .refine cP ?_;refine dm ?_;refine dm ?_;refine da (cI rfl) ?_;refine da (aK rfl sf) ?_;refine ea 0 (ay rfl Dy pH rfl) ?_;refine dm ?_;refine da (cI rfl) ?_;refine da (aK rfl Hr) ?_;refine ea 0 (ay rfl gJ pH rfl) ?_;refine dm ?_;refine da (cI rfl) ?_;refine da (aK rfl xy) ?_;refine ea 0 (ay rfl bV pH rfl) ?_;obtain⟨x3,j,h⟩:=aa h;refine db (aI (t:=Ti) rfl fM bV j) ?_;refine da (am (t:=Ti) rfl bV rfl) ?_;refine da (rK rfl U3 QR) ?_;refine db (AG rfl) ?_;refine db (Gt rfl) ?_;refine df dN ?_;refine ja (cI rfl) ?_;refine fl sf ?_;refine aW rfl rfl (aS rfl Dy rfl rfl rfl) ⟨rfl,rfl,trivial⟩ ?_;refine nl ?_;exact jz ((),IntKind.u64.wrap ((IntKind.u64.wrap ((IntKind.u64.wrap (a0.2.2 * 6364136223846793005))+1442695040888963407))+(IntKind.u64.wrap ((IntKind.u64.wrap x3) * 2862933555777941757)))) h [0]
  .refine bf (an ?_);exact jz ((),IntKind.u64.wrap ((IntKind.u64.wrap (a0.2.2 * 6364136223846793005))+1442695040888963407)) h [0]
 .
  refine sr (mq ?_);refine ja (cI rfl) ?_;refine fl xy ?_;refine lo bV ?_;obtain⟨x4,e,h⟩:=aa h;refine jb (bo rfl e) ?_;refine ja (cI rfl) ?_;refine fl xy ?_;refine aW rfl rfl (aS rfl bV rfl rfl rfl) ⟨rfl,rfl,trivial⟩ ?_;refine nt (ak (cP ?_));refine dm ?_;refine da (cI rfl) ?_;refine da (aK rfl sf) ?_;refine ea 0 (ay rfl Dy pH rfl) ?_;refine dm ?_;refine da (cI rfl) ?_;refine da (aK rfl sf) ?_;refine ea 0 (ay rfl Dy pH rfl) ?_;refine fu rfl rfl rfl (t8 rfl (by decide)) ⟨rfl,rfl,trivial⟩ ?_;refine df dN ?_;refine jb (LG rfl) ?_;refine aq (nt (sr ?_));refine mq ?_;refine jb (AG rfl) ?_;refine aq (nt (sr ?_));iterate 2 refine mq ?_
  refine bZ rfl (t8 rfl (by decide)) ⟨rfl,rfl,trivial⟩ ?_;refine jb (LG rfl) ?_;refine bZ rfl (t8 rfl (by decide)) ⟨rfl,rfl,trivial⟩ ?_;refine aq (nt (ax ?_));cases h;exact aP () [_] 1 ⟨rfl,trivial⟩ rfl
def c8(k:Nat)(a0:bT)(a1:Int):Option (Int×bT):=
 if a1 < 1 then(some (0,(a0.1,a0.2.1,a0.2.2))) else((gX k (a0.1,a0.2.1,a0.2.2)).bind λr1=>
 (ck (a1+1)).bind λx2=>
 (cN ((IntKind.u64.wrap x2)≠0)).bind λ_=>
 (ck (Int.tmod r1.1 (IntKind.u64.wrap x2))).bind λx4=>
 some (x4,(r1.2.1,r1.2.2.1,r1.2.2.2)))
theorem dB(k:Nat)(a0:bT)(c:Nat)(a1:Int)(r:Int×bT)(h:c8 k a0 a1=some r):
 dF Tryz.prog 21 [Pt c,I a1] [.obj c 69 (.agg (.pair (.rep Tl a0.1) (.pair (I a0.2.1) (.eq (.int .u64 a0.2.2)))))] (λ_:Unit=>(bJ [I r.1],[.obj c 69 (.agg (.pair (.rep Tl r.2.1) (.pair (I r.2.2.1) (.eq (.int .u64 r.2.2.2)))))])):=by
 unfold c8 at h
 replace h:=bq h
 refine dF.of 14 Tryz.func21 rfl Tryz.ntmps21 rfl λS w0=>?_
 refine sr ?_
 refine cq ?_
 refine nt ?_
 refine ak ?_
 refine sr ?_
 refine mq ?_
 refine jb (bA rfl) ?_
 refine nt ?_
 refine ci h (λh=>?_) (λh=>?_)
 .
  refine sr (cq (nt (rx ?_)));cases h;exact aP () [_] 1 ⟨rfl,trivial⟩ rfl
 .
  refine sk (sr (mq ?_));obtain⟨r1,n,h⟩:=aa h;refine ka (av [.tmp 7] rfl rfl Si rfl (rX k (a0.1,a0.2.1,a0.2.2) c r1 n)) ?_;refine mq ?_;obtain⟨x2,j,h⟩:=aa h;refine jb (bo rfl j) ?_;refine ja (rK rfl U3 QR) ?_;obtain⟨u3,l,h⟩:=aa h;refine jb (O8 rfl (ao l)) ?_;obtain⟨x4,e,h⟩:=aa h;refine ja (yM rfl QR U3 e) ?_;refine aq (nt (ax ?_));cases h;exact aP () [_] 1 ⟨rfl,trivial⟩ rfl
def fB(k:Nat)(a0:bT)(a1:Int)(a2:Int):Option (Int×bT):=
 (ck (a2 - a1)).bind λx1=>
 (c8 k (a0.1,a0.2.1,a0.2.2) x1).bind λr2=>
 (ck (a1+r2.1)).bind λx3=>
 some (x3,(r2.2.1,r2.2.2.1,r2.2.2.2))
theorem iN(k:Nat)(a0:bT)(c:Nat)(a1:Int)(a2:Int)(r:Int×bT)(h:fB k a0 a1 a2=some r):
 dF Tryz.prog 61 [Pt c,I a1,I a2] [.obj c 69 (.agg (.pair (.rep Tl a0.1) (.pair (I a0.2.1) (.eq (.int .u64 a0.2.2)))))] (λ_:Unit=>(bJ [I r.1],[.obj c 69 (.agg (.pair (.rep Tl r.2.1) (.pair (I r.2.2.1) (.eq (.int .u64 r.2.2.2)))))])):=by
 unfold fB at h
 replace h:=bq h
 refine dF.of 14 Tryz.func61 rfl Tryz.ntmps61 rfl λS w0=>?_
 refine sr ?_
 refine cq ?_
 refine nt ?_
 refine sr ?_
 iterate 4 refine mq ?_
 obtain⟨x1,j,h⟩:=aa h
 refine jb (dY rfl j) ?_
 obtain⟨r2,l,h⟩:=aa h
 have n:=dB k (a0.1,a0.2.1,a0.2.2) c x1 r2 l
 refine kb (av [.tmp 8,.tmp 11] rfl rfl A9 rfl n) ?_
 obtain⟨x3,e,h⟩:=aa h
 refine jb (bo rfl e) ?_
 refine aq ?_
 refine nt ?_
 refine ax ?_
 cases h
 exact aP () [_] 1 ⟨rfl,trivial⟩ rfl
def gi(k:Nat)(a0:bT)(a1:(List Int)):Option (Int×bT):=
 (ck ((a1.length:Int) - 1)).bind λx1=>
 (c8 k (a0.1,a0.2.1,a0.2.2) x1).bind λr2=>
 (aJ a1 r2.1).bind λx3=>
 some (x3,(r2.2.1,r2.2.2.1,r2.2.2.2))
theorem kX(k:Nat)(a0:bT)(c:Nat)(a1:(List Int))(r:Int×bT)(h:gi k a0 a1=some r):
 dF Tryz.prog 62 [Pt c,.rep Tl a1] [.obj c 69 (.agg (.pair (.rep Tl a0.1) (.pair (I a0.2.1) (.eq (.int .u64 a0.2.2)))))] (λ_:Unit=>(bJ [I r.1],[.obj c 69 (.agg (.pair (.rep Tl r.2.1) (.pair (I r.2.2.1) (.eq (.int .u64 r.2.2.2)))))])):=by
 unfold gi at h
 replace h:=bq h
 refine dF.of 13 Tryz.func62 rfl Tryz.ntmps62 rfl λS w0=>?_
 refine sr ?_
 refine cq ?_
 refine nt ?_
 refine sr ?_
 iterate 3 refine mq ?_
 refine ol fM ?_
 obtain⟨x1,j,h⟩:=aa h
 refine jb (dY rfl j) ?_
 obtain⟨r2,l,h⟩:=aa h
 have n:=dB k (a0.1,a0.2.1,a0.2.2) c x1 r2 l
 refine kb (av [.tmp 6,.tmp 9] rfl rfl A9 rfl n) ?_
 obtain⟨x3,e,h⟩:=aa h
 refine jb (aI (t:=Ti) rfl fM bV e) ?_
 refine ja (am (t:=Ti) rfl bV rfl) ?_
 refine aq ?_
 refine nt ?_
 refine ax ?_
 cases h
 exact aP () [_] 1 ⟨rfl,trivial⟩ rfl
def eX(k:Nat)(a0:bT)(a1:Int):Option (Bool×bT):=
 (ck (a1 - 1)).bind λx1=>
 (c8 k (a0.1,a0.2.1,a0.2.2) x1).bind λr2=>
 some (decide (r2.1=0),(r2.2.1,r2.2.2.1,r2.2.2.2))
theorem jf(k:Nat)(a0:bT)(c:Nat)(a1:Int)(r:Bool×bT)(h:eX k a0 a1=some r):
 dF Tryz.prog 63 [Pt c,I a1] [.obj c 69 (.agg (.pair (.rep Tl a0.1) (.pair (I a0.2.1) (.eq (.int .u64 a0.2.2)))))] (λ_:Unit=>(bJ [.eq (.bool r.1)],[.obj c 69 (.agg (.pair (.rep Tl r.2.1) (.pair (I r.2.2.1) (.eq (.int .u64 r.2.2.2)))))])):=by
 unfold eX at h
 replace h:=bq h
 refine dF.of 10 Tryz.func63 rfl Tryz.ntmps63 rfl λS w0=>?_
 refine sr ?_
 refine cq ?_
 refine nt ?_
 refine sr ?_
 iterate 2 refine mq ?_
 obtain⟨x1,e,h⟩:=aa h
 refine jb (dY rfl e) ?_
 obtain⟨r2,j,h⟩:=aa h
 have l:=dB k (a0.1,a0.2.1,a0.2.2) c x1 r2 j
 refine kb (av [.tmp 5,.tmp 7] rfl rfl A9 rfl l) ?_
 refine jb (iD rfl) ?_
 refine aq ?_
 refine nt ?_
 refine ax ?_
 cases h
 exact aP () [_] 1 ⟨rfl,trivial⟩ rfl
def iO(k:Nat)(a0:(List Int)):Option (List Int):=
 (cN (cu (length ([]:(List Int))+length a0))).bind λ_=>
 some (([]:(List Int))++a0)
theorem ta(k:Nat)(a0:(List Int))(r:(List Int))(h:iO k a0=some r):
 dF Tryz.prog 87 [.rep Tl a0] [] (λz:Value=>(bJ [.eq z],[.sl z 3 Ti r])):=by
 unfold iO at h
 replace h:=bq h
 refine dF.of 6 Tryz.func87 rfl Tryz.ntmps87 rfl λS w0=>?_
 refine sr ?_
 refine cq ?_
 refine nt ?_
 refine sr ?_
 refine bg rfl rfl rfl (mJ (t:=Ti) [] ([]:(List Int)) rfl rfl dy .nil rfl rfl) trivial λv1=>?_
 refine mq ?_
 obtain⟨u2,c,h⟩:=aa h
 refine ek rfl rfl rfl (cH rfl rfl dy (ao c)) ⟨rfl,rfl,trivial⟩ λv3=>?_
 refine aq ?_
 refine nt ?_
 refine ax ?_
 cases h
 exact aP v3 [.eq v3] 1 ⟨rfl,trivial⟩ rfl
def dC(k:Nat)(a0:(List (List Int))):Nat->((List (List Int))×Int)->Option (List (List Int))
 |0,_=>none
 |n+1,y3=>
  if y3.2 < (a0.length:Int) then((aJ a0 y3.2).bind λx5=>
  (iO k x5).bind λr6=>
  (cN (cu (length y3.1+length [r6]))).bind λ_=>
  (ck (y3.2+1)).bind λc=>
  dC k a0 n (y3.1++[r6],c)) else(some y3.1)
def gY(k:Nat)(a0:(List (List Int))):Option (List (List Int)):=
 ((dC k a0 k (([]:(List (List Int))),0)):Option ((List (List Int)))).bind λx1=>
 some x1
theorem rY(k:Nat)(a0:(List (List Int)))(r:(List (List Int)))(h:gY k a0=some r):
 dF Tryz.prog 64 [.rep (.slice Tl) a0] [] (λz:Value=>(bJ [.eq z],[.sl z 22 Tl r])):=by
 unfold gY at h
 replace h:=bq h
 refine dF.of 20 Tryz.func64 rfl Tryz.ntmps64 rfl λS w0=>?_
 refine sr ?_
 refine cq ?_
 refine nt ?_
 refine sr ?_
 refine cq ?_
 refine nt ?_
 refine aG (Z:=Value) (α:=(List (List Int))) (λz2 x1=>[(3,.eq z2)]) (λz2 x1=>[.sl z2 22 Tl x1]) h (λK h=>?_) (λz2 x1 h=>?_)
 .
  refine sr (cq (nt (aj ?_)));refine jN (SE.nil 22 Tl) ?_;refine aH (λz4 y3=>[(0,.rep (.slice Tl) a0),(3,.eq z4),(4,I y3.2)]) (λz4 y3=>[.sl z4 22 Tl y3.1]) (dC k a0) k (.slice none 0 0) (([]:(List (List Int))),0) (λ_=>rfl) h (SE.fin [0] ⟨rfl,rfl,rfl,trivial⟩ rfl) (λn z4 y3 h=>?_);unfold dC at h;refine ak (sr ?_);iterate 2 refine mq ?_
  refine ol qY ?_;refine jb (bA rfl) ?_;refine nt (ci h (λh=>?_) (λh=>?_))
  .refine sk (ak (aj (ab ?_)));iterate 3 refine mq ?_
   obtain⟨x5,j,h⟩:=aa h;refine jb (aI (t:=Tl) rfl qY gJ j) ?_;refine ja (am (t:=Tl) rfl gJ rfl) ?_;obtain⟨r6,s,h⟩:=aa h;refine bg rfl rfl rfl (av [.tmp 15] rfl rfl RJ rfl (ta k x5 r6 s)) ⟨rfl,trivial⟩ λv7=>?_;refine eV (iR [16] ⟨rfl,trivial⟩) ?_;refine ja (bi (t:=Tl) [(.tmp 16,_)] [r6] rfl rfl o5 (.cons rfl .rep .nil) rfl rfl) ?_;obtain⟨u8,l,h⟩:=aa h;refine ek rfl rfl rfl (cH rfl rfl o5 (ao l)) ⟨rfl,rfl,trivial⟩ λv9=>?_;refine aq (aA (aX (tn (ab ?_))));refine mq ?_;obtain⟨e,c,h⟩:=aa h;refine jb (bo rfl c) ?_;refine aq (nl ?_);exact jz (v9,(y3.1++[r6],e)) h [0]
  .refine xa ?_;exact jz (z4,y3.1) h [0]
 .
  refine sr (mq ?_);refine aq (nt (ax ?_));cases h;exact aP z2 [.eq z2] 1 ⟨rfl,trivial⟩ rfl
def dQ(k:Nat)(a1:Int):Nat->((List Int)×Int×Int×(List Int)×Int)->Option ((List Int)×(List Int)×Int×Int)
 |0,_=>none
 |n+1,y3=>
  if y3.2.2.2.2 < a1 then((c8 k (y3.1,y3.2.1,y3.2.2.1) y3.2.2.2.2).bind λr5=>
  (cN (cu (length y3.2.2.2.1+length [y3.2.2.2.2]))).bind λ_=>
  (aJ (y3.2.2.2.1++[y3.2.2.2.2]) r5.1).bind λx8=>
  (aJ (y3.2.2.2.1++[y3.2.2.2.2]) y3.2.2.2.2).bind λx9=>
  (aJ (List.set (y3.2.2.2.1++[y3.2.2.2.2]) (Int.toNat y3.2.2.2.2) x8) r5.1).bind λe=>
  (ck (y3.2.2.2.2+1)).bind λc=>
  dQ k a1 n (r5.2.1,r5.2.2.1,r5.2.2.2,List.set (List.set (y3.2.2.2.1++[y3.2.2.2.2]) (Int.toNat y3.2.2.2.2) x8) (Int.toNat r5.1) y3.2.2.2.2,c)) else(some (y3.2.2.2.1,y3.1,y3.2.1,y3.2.2.1))
def gk(k:Nat)(a0:bT)(a1:Int):Option ((List Int)×bT):=
 ((dQ k a1 k (a0.1,a0.2.1,a0.2.2,([]:(List Int)),0)):Option ((List Int)×(List Int)×Int×Int)).bind λx1=>
 some (x1.1,(x1.2.1,x1.2.2.1,x1.2.2.2))
theorem qM(k:Nat)(a0:bT)(c:Nat)(a1:Int)(r:(List Int)×bT)(h:gk k a0 a1=some r):
 dF Tryz.prog 88 [Pt c,I a1] [.obj c 69 (.agg (.pair (.rep Tl a0.1) (.pair (I a0.2.1) (.eq (.int .u64 a0.2.2)))))] (λ_:Unit=>(bJ [.rep Tl r.1],[.obj c 69 (.agg (.pair (.rep Tl r.2.1) (.pair (I r.2.2.1) (.eq (.int .u64 r.2.2.2)))))])):=by
 unfold gk at h
 replace h:=bq h
 refine dF.of 32 Tryz.func88 rfl Tryz.ntmps88 rfl λS w0=>?_
 refine sr ?_
 refine cq ?_
 refine nt ?_
 refine sr ?_
 refine cq ?_
 refine nt ?_
 refine aG (Z:=Value) (α:=(List Int)×(List Int)×Int×Int) (λz2 x1=>[(5,.eq z2)]) (λz2 x1=>[.sl z2 3 Ti x1.1,.obj c 69 (.agg (.pair (.rep Tl x1.2.1) (.pair (I x1.2.2.1) (.eq (.int .u64 x1.2.2.2)))))]) h (λK h=>?_) (λz2 x1 h=>?_)
 .
  refine sr (cq (nt (aj ?_)));refine jN (SE.nil 3 Ti) ?_;refine aH (λz4 y3=>[(0,Pt c),(1,I a1),(5,.eq z4),(6,I y3.2.2.2.2)]) (λz4 y3=>[.obj c 69 (.agg (.pair (.rep Tl y3.1) (.pair (I y3.2.1) (.eq (.int .u64 y3.2.2.1))))),.sl z4 3 Ti y3.2.2.2.1]) (dQ k a1) k (.slice none 0 0) (a0.1,a0.2.1,a0.2.2,([]:(List Int)),0) (λ_=>rfl) h (SE.fin [1,0] ⟨rfl,rfl,rfl,rfl,trivial⟩ rfl) (λn z4 y3 h=>?_);unfold dQ at h;refine ak (sr ?_);iterate 2 refine mq ?_
  refine jb (bA rfl) ?_;refine nt (ci h (λh=>?_) (λh=>?_))
  .refine sk (ak (aj (sr ?_)));iterate 2 refine mq ?_
   obtain⟨r5,y,h⟩:=aa h;refine kb (av [.tmp 13,.tmp 14] rfl rfl A9 rfl (dB k (y3.1,y3.2.1,y3.2.2.1) c y3.2.2.2.2 r5 y)) ?_;refine aq (nt (sr ?_));iterate 2 refine mq ?_
   refine ja (bi (t:=Ti) [(.tmp 17,_)] [y3.2.2.2.2] rfl rfl dy (.cons rfl .int .nil) rfl rfl) ?_;obtain⟨u6,x,h⟩:=aa h;refine fr 1 ?_;refine ek rfl rfl rfl (cH rfl rfl dy (ao x)) ⟨rfl,rfl,trivial⟩ λv7=>?_;refine aq (nt (ab ?_));iterate 6 refine mq ?_
   obtain⟨x8,l,h⟩:=aa h;refine kb (cG (t:=Ti) rfl fM bV l) ?_;refine ka (gu (i:=Int.toNat r5.1) (off:=0) rfl bV (λ_=>rfl) rfl (dD l).2.2 rfl) ?_;refine mq ?_;obtain⟨x9,j,h⟩:=aa h;refine kb (cG (t:=Ti) rfl fM bV j) ?_;refine aW rfl rfl (gd (i:=Int.toNat y3.2.2.2.2) rfl bV rfl (mR j) rfl .int rfl) ⟨rfl,rfl,trivial⟩ ?_;obtain⟨D,e,h⟩:=aa h;refine kb (cG (t:=Ti) rfl fM bV e) ?_;refine aW rfl rfl (gd (i:=Int.toNat r5.1) rfl bV rfl (mR e) rfl .int rfl) ⟨rfl,rfl,trivial⟩ ?_;refine aA (aX (tn (ab (mq ?_))));obtain⟨u,s,h⟩:=aa h;refine jb (bo rfl s) ?_;refine aq (nl ?_);exact jz (v7,(r5.2.1,r5.2.2.1,r5.2.2.2,List.set (List.set (y3.2.2.2.1++[y3.2.2.2.2]) (Int.toNat y3.2.2.2.2) x8) (Int.toNat r5.1) y3.2.2.2.2,u)) h [1,0]
  .refine xa ?_;exact jz (z4,(y3.2.2.2.1,y3.1,y3.2.1,y3.2.2.1)) h [1,0]
 .
  refine sr (mq ?_);refine aq (nt (ax ?_));refine bX (iR [4,5,31] ⟨rfl,rfl,rfl,trivial⟩) ?_;cases h;exact aP () [_] 1 ⟨rfl,trivial⟩ rfl
def lJ(k:Nat)(a0:(List Int)):Option bT:=
 some (a0,0,1)
theorem uk(k:Nat)(a0:(List Int))(r:bT)(h:lJ k a0=some r):
 dF Tryz.prog 11 [.rep Tl a0] [] (λz:Nat=>(bJ [Pt z],[.obj z 69 (.agg (.pair (.rep Tl r.1) (.pair (I r.2.1) (.eq (.int .u64 r.2.2)))))])):=by
 unfold lJ at h
 replace h:=bq h
 refine dF.of 6 Tryz.func11 rfl Tryz.ntmps11 rfl λS w0=>?_
 refine sr ?_
 refine cq ?_
 refine nt ?_
 refine sr ?_
 refine mq ?_
 refine jb (ee [(0,.tmp 3,_),(2,.const (.int .u64 (1)),_)] rfl Q8 Q2 Qm (j7 ⟨rfl,rfl,trivial⟩) rfl) ?_
 refine bg rfl rfl rfl (vV rfl trivial) ⟨rfl,trivial⟩ λb1=>?_
 refine aq ?_
 refine nt ?_
 refine ax ?_
 cases h
 exact aP b1 [Pt b1] 1 ⟨rfl,trivial⟩ rfl
def fK(k:Nat)(a0:Int)(a1:Int):Option Int:=
 (cN (0≤a1)).bind λ_=>
 some (Cd .u8 a0 (nU .u8 1 a1))
theorem jU(k:Nat)(a0:Int)(a1:Int)(r:Int)(h:fK k a0 a1=some r):
 dF Tryz.prog 50 [.eq (.int .u8 a0),I a1] [] (λ_:Unit=>(bJ [.eq (.int .u8 r)],[])):=by
 unfold fK at h
 replace h:=bq h
 refine dF.of 9 Tryz.func50 rfl Tryz.ntmps50 rfl λS w0=>?_
 refine sr ?_
 refine cq ?_
 refine nt ?_
 refine sr ?_
 iterate 2 refine mq ?_
 obtain⟨u1,c,h⟩:=aa h
 refine jb (LH rfl (ao c)) ?_
 refine jb (Rb rfl) ?_
 refine aq ?_
 refine nt ?_
 refine ax ?_
 cases h
 exact ra
def dz(k:Nat)(a0:Int)(a1:Int)(a2:Int):Option Bool:=
 ((if a1≤a0 then(some (decide (a0≤a2))) else(some false)):Option (Bool)).bind λx1=>
 some x1
theorem dJ(k:Nat)(a0:Int)(a1:Int)(a2:Int)(r:Bool)(h:dz k a0 a1 a2=some r):
 dF Tryz.prog 72 [I a0,I a1,I a2] [] (λ_:Unit=>(bJ [.eq (.bool r)],[])):=by
 unfold dz at h
 replace h:=bq h
 refine dF.of 15 Tryz.func72 rfl Tryz.ntmps72 rfl λS w0=>?_
 refine sr ?_
 refine cq ?_
 refine nt ?_
 refine aG (Z:=Unit) (α:=Bool) (λz2 x1=>[(6,.eq (.bool x1))]) (λz2 x1=>[]) h (λK h=>?_) (λz2 x1 h=>?_)
 .
  refine ab ?_;iterate 2 refine mq ?_
  refine jb (BL rfl) ?_;refine mq ?_;refine cE (s:=10) rfl (λhb=>?_) (λhb=>?_)
  .replace h:=ec (sx hb) h;refine gm ?_;refine gm ?_;refine gb (BL rfl) ?_;refine pt ?_;refine aq (nl ?_);exact jz ((),decide (a0≤a2)) h []
  .replace h:=cJ (sB hb) h;iterate 3 refine gn ?_
   refine pf ?_;refine aq (nl ?_);exact jz ((),false) h []
 .
  refine ax ?_;cases h;exact ra
def fR(k:Nat)(a0:ae)(a1:bY):Option Int:=
 (((ck (a0.1 - 1)).bind λx5=>
 (dz k a1.1 0 x5).bind λr6=>
 if¬(r6=true) then(some true) else((dz k a1.2.1 0 (a0.2.2.2.2.1.length:Int)).bind λr7=>
 some (!r7))):Option (Bool)).bind λx3=>
 if x3=true then(some 3) else(some 0)
theorem pN(k:Nat)(a0:ae)(a1:bY)(r:Int)(h:fR k a0 a1=some r):
 dF Tryz.prog 68 [.rep au a0,.rep bR a1] [] (λ_:Unit=>(bJ [I r],[])):=by
 unfold fR at h
 replace h:=bq h
 refine dF.of 21 Tryz.func68 rfl Tryz.ntmps68 rfl λS w0=>?_
 refine sr ?_
 refine bx λb1=>?_
 refine bx λb2=>?_
 refine cq ?_
 refine nt ?_
 refine ak ?_
 refine aG (Z:=Unit) (α:=Bool) (λz4 x3=>[(20,.eq (.bool x3))]) (λz4 x3=>[]) h (λK h=>?_) (λz4 x3 h=>?_)
 .
  refine ab (fl Hu ?_);refine lo bV ?_;refine fl gp ?_;refine fr 1 ?_;refine lo bV ?_;obtain⟨x5,c,h⟩:=aa h;refine jb (dY rfl c) ?_;obtain⟨r6,j,h⟩:=aa h;refine jc (av [.tmp 6,.const (.int .i64 (0)),.tmp 9] rfl rfl xE rfl (dJ k a1.1 0 x5 r6 j)) ?_;refine ja (gU rfl) ?_;refine mq ?_;refine cE (s:=12) rfl (λhb=>?_) (λhb=>?_)
  .replace h:=ec (AI hb) h;iterate 7 refine gn ?_
   refine pt (nl ?_);exact jz ((),true) h []
  .replace h:=cJ (t9 hb) h;refine ga (aK rfl Ht) ?_;refine fr 1 ?_;refine oh rfl rfl rfl rfl rfl rfl (ay rfl bV pH rfl) ⟨rfl,trivial⟩ ?_;refine ga (aK rfl dU) ?_;refine fr 1 ?_;refine oh rfl rfl rfl rfl rfl rfl (ay rfl kh pH rfl) ⟨rfl,trivial⟩ ?_;refine ga (pi rfl rfl yi) ?_;obtain⟨r7,e,h⟩:=aa h;refine gc (av [.tmp 14,.const (.int .i64 (0)),.tmp 17] rfl rfl xE rfl (dJ k a1.2.1 0 (a0.2.2.2.2.1.length:Int) r7 e)) ?_;refine ga (gU rfl) ?_;refine pf (nl ?_);exact jz ((), !r7) h []
 .
  refine cv h (λh=>?_) (λh=>?_)
  .refine sr (cq (nt (rx ?_)));cases h;exact ra
  .refine sk (sr (cq (nt (ax ?_))));cases h;exact ra
def eK(k:Nat)(a0:Int)(a1:Int):Option Bool:=
 (cN (0≤a1)).bind λ_=>
 some (decide ((pU .u8 (gZ .u8 a0 a1) 1)=1))
theorem gg(k:Nat)(a0:Int)(a1:Int)(r:Bool)(h:eK k a0 a1=some r):
 dF Tryz.prog 75 [.eq (.int .u8 a0),I a1] [] (λ_:Unit=>(bJ [.eq (.bool r)],[])):=by
 unfold eK at h
 replace h:=bq h
 refine dF.of 10 Tryz.func75 rfl Tryz.ntmps75 rfl λS w0=>?_
 refine sr ?_
 refine cq ?_
 refine nt ?_
 refine sr ?_
 iterate 2 refine mq ?_
 obtain⟨u1,c,h⟩:=aa h
 refine jb (t8 rfl (ao c)) ?_
 refine jb (Pg rfl) ?_
 refine jb (iD rfl) ?_
 refine aq ?_
 refine nt ?_
 refine ax ?_
 cases h
 exact ra
def c9(k:Nat)(a0:ae)(x8:(List Int)):Nat->(Int×Int)->Option (Except Int Int)
 |0,_=>none
 |n+1,y9=>
  if y9.2 < (x8.length:Int) then((aJ x8 y9.2).bind λc=>
  (ck (a0.1 - 1)).bind λh=>
  (dz k c 0 h).bind λr=>
  if¬(r=true) then(some (.error 3)) else((eK k y9.1 c).bind λl=>
  if l=true then(some (.error 4)) else((fK k y9.1 c).bind λj=>
  (ck (y9.2+1)).bind λe=>
  c9 k a0 x8 n (j,e)))) else(some (.ok y9.1))
def de(k:Nat)(a0:ae)(a1:(List (List Int))):Nat->(Int×Int)->Option (Except Int Unit)
 |0,_=>none
 |n+1,y4=>
  if y4.2 < (a1.length:Int) then(bE (α:=Int) ((aJ a1 y4.2).bind λx8=>
  c9 k a0 x8 k (y4.1,0)) (λe=>some (.error e)) λx6=>
  (ck (y4.2+1)).bind λc=>
  de k a0 a1 n (x6,c)) else(some (.ok ()))
def iK(k:Nat)(a0:ae)(a1:(List (List Int))):Option Int:=
 if 3 < (a1.length:Int) then(some 6) else(bE (α:=Unit) (de k a0 a1 k (0,0)) (some) λ_=>
 some 0)
theorem s8(k:Nat)(a0:ae)(a1:(List (List Int)))(r:Int)(h:iK k a0 a1=some r):
 dF Tryz.prog 90 [.rep au a0,.rep (.slice Tl) a1] [] (λ_:Unit=>(bJ [I r],[])):=by
 unfold iK at h
 replace h:=bq h
 refine dF.of 39 Tryz.func90 rfl Tryz.ntmps90 rfl λS w0=>?_
 refine sr ?_
 refine bx λb1=>?_
 refine cq ?_
 refine nt ?_
 refine ak ?_
 refine sr ?_
 refine mq ?_
 refine ol qY ?_
 refine jb (me rfl) ?_
 refine nt ?_
 refine ci h (λh=>?_) (λh=>?_)
 .
  refine sr (cq (nt (rx ?_)));cases h;exact ra
 .
  refine sk (sr (cq (nt ?_)));refine c7 (Z:=Unit) (α:=Unit) (λz3 x2=>[]) (λz3 x2=>[]) (λe=>e=r) h (λe h=>Option.some.inj h) (λK hR h=>?_) (λz3 x2 h=>?_)
  .refine sr (mq ?_);refine ol qY ?_;refine fa rfl ?_;refine nt (aj (aH (λz5 y4=>[(2,Pt b1),(5,.eq (.int .u8 y4.1)),(13,.rep (.slice Tl) a1),(14,I (a1.length:Int)),(15,I y4.2)]) (λz5 y4=>[.obj b1 26 (.rep au a0)]) (de k a0 a1) k () (0,0) (λ_=>rfl) h (SE.fin [0] ⟨rfl,rfl,rfl,rfl,rfl,trivial⟩ rfl) (λn z5 y4 h=>?_)));unfold de at h;refine sr (jb (bA rfl) ?_);refine nt (ak (ci h (λh=>?_) (λh=>?_)))
   .refine sk (c7 (Z:=Unit) (α:=Int) (λz7 x6=>[(2,Pt b1),(5,.eq (.int .u8 x6)),(13,.rep (.slice Tl) a1),(14,I (a1.length:Int)),(15,I y4.2)]) (λz7 x6=>[.obj b1 26 (.rep au a0)]) (λe=>e=r) h (λe h=>hR e h) (λK hR h=>?_) (λz7 x6 h=>?_))
    .refine aj (sr ?_);obtain⟨x8,X,h⟩:=aa h;refine jb (aI (t:=Tl) rfl qY gJ X) ?_;refine ja (am (t:=Tl) rfl gJ rfl) ?_;refine aq (nt (sr ?_));refine mq ?_;refine ol fM ?_;refine fa rfl ?_;refine nt (aj (aH (λj y9=>[(2,Pt b1),(5,.eq (.int .u8 y9.1)),(13,.rep (.slice Tl) a1),(14,I (a1.length:Int)),(15,I y4.2),(19,.rep Tl x8),(20,I (x8.length:Int)),(21,I y9.2)]) (λj y9=>[.obj b1 26 (.rep au a0)]) (c9 k a0 x8) k () (y4.1,0) (λ_=>rfl) h (SE.fin [0] ⟨rfl,rfl,rfl,rfl,rfl,rfl,rfl,rfl,trivial⟩ rfl) (λn j y9 h=>?_)));unfold c9 at h;refine sr (jb (bA rfl) ?_);refine nt (ak (ci h (λh=>?_) (λh=>?_)))
     .refine sk (ak (aj (sr ?_)));obtain⟨c,y,h⟩:=aa h;refine jb (aI (t:=Ti) rfl fM bV y) ?_;refine ja (am (t:=Ti) rfl bV rfl) ?_;refine aq (nt (ak (sr ?_)));refine mq ?_;refine fl gp ?_;refine lo bV ?_;obtain⟨O,x,h⟩:=aa h;refine jb (dY rfl x) ?_;obtain⟨U,F,h⟩:=aa h;refine jc (av [.tmp 25,.const (.int .i64 (0)),.tmp 28] rfl rfl xE rfl (dJ k c 0 O U F)) ?_;refine ja (gU rfl) ?_;refine nt (cw h (λh=>?_) (λh=>?_))
      .refine sr (cq (nt (rx (br (ba (br (ba (aZ ?_))))))));obtain rfl:=hR _ h;exact ra
      .refine sk (ak (sr ?_));iterate 2 refine mq ?_
       obtain⟨Q,E,h⟩:=aa h;refine jb (av [.tmp 31,.tmp 32] rfl rfl HA rfl (gg k y9.1 c Q E)) ?_;refine nt (cv h (λh=>?_) (λh=>?_))
       .refine sr (cq (nt (rx (br (ba (br (ba (aZ ?_))))))));obtain rfl:=hR _ h;exact ra
       .refine sk (ab ?_);iterate 2 refine mq ?_
        obtain⟨l,D,h⟩:=aa h;refine jb (av [.tmp 34,.tmp 35] rfl rfl NN rfl (jU k y9.1 c l D)) ?_;refine aq (aA (aX (tn (ab ?_))));obtain⟨M,u,h⟩:=aa h;refine jb (bo rfl u) ?_;refine mq (nl ?_);exact jz ((),(l,M)) h [0]
     .refine eW (bF (bF (cO (bn ?_))));exact jz ((),y9.1) h [0]
    .refine ab ?_;obtain⟨J,s,h⟩:=aa h;refine jb (bo rfl s) ?_;refine mq (nl ?_);exact jz ((),(x6,J)) h [0]
   .refine xa ?_;exact jz ((),()) h []
  .refine sr (cq (nt (ax ?_)));cases h;exact ra
def eQ(k:Nat)(a0:ae):Nat->Int->Option (Except Int Unit)
 |0,_=>none
 |n+1,c=>
  if c < (a0.2.2.2.2.1.length:Int) then((aJ a0.2.2.2.2.1 c).bind λj=>
  (iK k a0 j).bind λe=>
  if¬(e=0) then(some (.error e)) else((ck (c+1)).bind λh=>
  eQ k a0 n h)) else(some (.ok ()))
def eP(k:Nat)(a0:ae):Nat->Int->Option (Except Int Unit)
 |0,_=>none
 |n+1,c=>
  if c < (a0.2.2.2.2.2.length:Int) then((aJ a0.2.2.2.2.2 c).bind λj=>
  (fR k a0 j).bind λe=>
  if¬(e=0) then(some (.error e)) else((ck (c+1)).bind λh=>
  eP k a0 n h)) else(some (.ok ()))
def mh(k:Nat)(a0:ae):Option Int:=
 (((dz k a0.1 1 5).bind λr4=>
 if¬(r4=true) then(some true) else((dz k a0.2.1 0 3).bind λr5=>
 if¬(r5=true) then(some true) else((dz k a0.2.2.1 0 3).bind λr6=>
 if¬(r6=true) then(some true) else((dz k a0.2.2.2.1 1 3).bind λr7=>
 some (!r7))))):Option (Bool)).bind λx2=>
 if x2=true then(some 1) else(if(a0.2.2.2.2.1.length:Int) < 1 then(some 7) else(if 6 < (a0.2.2.2.2.1.length:Int) then(some 6) else(bE (α:=Unit) (eQ k a0 k 0) (some) λ_=>
 if 8 < (a0.2.2.2.2.2.length:Int) then(some 6) else(bE (α:=Unit) (eP k a0 k 0) (some) λ_=>
 some 0))))
theorem xl(k:Nat)(a0:ae)(r:Int)(h:mh k a0=some r):
 dF Tryz.prog 71 [.rep au a0] [] (λ_:Unit=>(bJ [I r],[])):=by
 unfold mh at h
 replace h:=bq h
 refine dF.of 73 Tryz.func71 rfl Tryz.ntmps71 rfl λS w0=>?_
 refine sr ?_
 refine bx λb1=>?_
 refine cq ?_
 refine nt ?_
 refine ak ?_
 refine aG (Z:=Unit) (α:=Bool) (λz3 x2=>[(1,Pt b1),(31,.eq (.bool x2))]) (λz3 x2=>[.obj b1 26 (.rep au a0)]) h (λK h=>?_) (λz3 x2 h=>?_)
 .
  refine ab (fl gp ?_);refine lo bV ?_;obtain⟨r4,TW,h⟩:=aa h;refine jc (av [.tmp 11,.const (.int .i64 (1)),.const (.int .i64 (5))] rfl rfl xE rfl (dJ k a0.1 1 5 r4 TW)) ?_;refine ja (gU rfl) ?_;refine mq ?_;refine cE (s:=14) rfl (λhb=>?_) (λhb=>?_)
  .replace h:=ec (AI hb) h;iterate 4 refine gn ?_
   refine pt ?_;refine mq ?_;iterate 4 refine gn ?_
   refine pt ?_;refine mq ?_;iterate 4 refine gn ?_
   refine pt (nl ?_);exact jz ((),true) h [0]
  .replace h:=cJ (t9 hb) h;refine ga (aK rfl xz) ?_;refine oh rfl rfl rfl rfl rfl rfl (ay rfl bV pH rfl) ⟨rfl,trivial⟩ ?_;obtain⟨r5,TV,h⟩:=aa h;refine gc (av [.tmp 16,.const (.int .i64 (0)),.const (.int .i64 (3))] rfl rfl xE rfl (dJ k a0.2.1 0 3 r5 TV)) ?_;refine ga (gU rfl) ?_;refine pf ?_;refine mq ?_;refine cE (s:=20) rfl (λhb=>?_) (λhb=>?_)
   .replace h:=ec (AI hb) h;iterate 4 refine gn ?_
    refine pt ?_;refine mq ?_;iterate 4 refine gn ?_
    refine pt (nl ?_);exact jz ((),true) h [0]
   .replace h:=cJ (t9 hb) h;refine ga (aK rfl A4) ?_;refine oh rfl rfl rfl rfl rfl rfl (ay rfl bV pH rfl) ⟨rfl,trivial⟩ ?_;obtain⟨r6,zz,h⟩:=aa h;refine gc (av [.tmp 22,.const (.int .i64 (0)),.const (.int .i64 (3))] rfl rfl xE rfl (dJ k a0.2.2.1 0 3 r6 zz)) ?_;refine ga (gU rfl) ?_;refine pf ?_;refine mq ?_;refine cE (s:=26) rfl (λhb=>?_) (λhb=>?_)
    .replace h:=ec (AI hb) h;iterate 4 refine gn ?_
     refine pt (nl ?_);exact jz ((),true) h [0]
    .replace h:=cJ (t9 hb) h;refine ga (aK rfl Hv) ?_;refine oh rfl rfl rfl rfl rfl rfl (ay rfl bV pH rfl) ⟨rfl,trivial⟩ ?_;obtain⟨r7,qt,h⟩:=aa h;refine gc (av [.tmp 28,.const (.int .i64 (1)),.const (.int .i64 (3))] rfl rfl xE rfl (dJ k a0.2.2.2.1 1 3 r7 qt)) ?_;refine ga (gU rfl) ?_;refine pf (nl ?_);exact jz ((), !r7) h [0]
 .
  refine cv h (λh=>?_) (λh=>?_)
  .refine sr (cq (nt (rx ?_)));cases h;exact ra
  .refine sk (ak (sr (fl dU ?_)));refine lo kh ?_;refine ol yi ?_;refine aq (nt (aj (sr ?_)));refine mq ?_;refine jb (bA rfl) ?_;refine aq (nt ?_);refine ci h (λh=>?_) (λh=>?_)
   .refine sr (cq (nt (ax (ba (aZ ?_)))));cases h;exact ra
   .refine sr (mq ?_);refine jb (me rfl) ?_;refine aq (nt ?_);refine ci h (λh=>?_) (λh=>?_)
    .refine sr (cq (nt (ax (ba (aZ ?_)))));cases h;exact ra
    .refine bf (aX (tn (c7 (Z:=Unit) (α:=Unit) (λz9 x8=>[(1,Pt b1)]) (λz9 x8=>[.obj b1 26 (.rep au a0)]) (λe=>e=r) h (λe h=>Option.some.inj h) (λK hR h=>?_) (λz9 x8 h=>?_))))
     .refine sr (fl dU ?_);refine lo kh ?_;refine ol yi ?_;refine fa rfl ?_;refine nt (aj (aH (λx j=>[(1,Pt b1),(42,.rep (.slice (.slice Tl)) a0.2.2.2.2.1),(43,I (a0.2.2.2.2.1.length:Int)),(44,I j)]) (λx j=>[.obj b1 26 (.rep au a0)]) (eQ k a0) k () 0 (λ_=>rfl) h (SE.fin [0] ⟨rfl,rfl,rfl,rfl,trivial⟩ rfl) (λn x j h=>?_)));unfold eQ at h;refine sr (jb (bA rfl) ?_);refine nt (ak (ci h (λh=>?_) (λh=>?_)))
      .refine sk (ak (aj (sr ?_)));obtain⟨Y,J,h⟩:=aa h;refine jb (aI (t:=(.slice Tl)) rfl yi sZ J) ?_;refine ja (am (t:=(.slice Tl)) rfl sZ rfl) ?_;refine aq (nt (sr ?_));refine lo jP ?_;refine mq ?_;obtain⟨mw,O,h⟩:=aa h;refine jb (av [.tmp 48,.tmp 49] rfl rfl RH rfl (s8 k a0 Y mw O)) ?_;refine aq (nt (sr ?_));refine mq ?_;refine jb (eZ rfl) ?_;refine nt (cn h (λh=>?_) (λh=>?_))
       .refine sr (mq ?_);refine aq (nt (ax (br (ba (aZ ?_)))));obtain rfl:=hR _ h;exact ra
       .refine bf (aX (tn (ab ?_)));obtain⟨X,F,h⟩:=aa h;refine jb (bo rfl F) ?_;refine mq (nl ?_);exact jz ((),X) h [0]
      .refine xa ?_;exact jz ((),()) h [0]
     .refine ak (sr (fl A3 ?_));refine lo MG ?_;refine ol Qq ?_;refine jb (me rfl) ?_;refine nt (ci h (λh=>?_) (λh=>?_))
      .refine sr (cq (nt (rx ?_)));cases h;exact ra
      .refine sk (c7 (Z:=Unit) (α:=Unit) (λu y=>[]) (λu y=>[]) (λe=>e=r) h (λe h=>Option.some.inj h) (λK hR h=>?_) (λu y h=>?_))
       .refine sr (fl A3 ?_);refine lo MG ?_;refine ol Qq ?_;refine fa rfl ?_;refine nt (aj (aH (λl c=>[(1,Pt b1),(60,Rs bR a0.2.2.2.2.2),(61,I (a0.2.2.2.2.2.length:Int)),(62,I c)]) (λl c=>[.obj b1 26 (.rep au a0)]) (eP k a0) k () 0 (λ_=>rfl) h (SE.fin [0] ⟨rfl,rfl,rfl,rfl,trivial⟩ rfl) (λn l c h=>?_)));unfold eP at h;refine sr (jb (bA rfl) ?_);refine nt (ak (ci h (λh=>?_) (λh=>?_)))
        .refine sk (ak (aj (sr ?_)));obtain⟨U,E,h⟩:=aa h;refine jb (aI (t:=bR) rfl Qq wR E) ?_;refine ja (am (t:=bR) rfl wR rfl) ?_;refine bg rfl rfl rfl (bI rfl IF N9) trivial λTX=>?_;refine aW rfl rfl (aS rfl wR rfl rfl rfl) ⟨rfl,rfl,trivial⟩ ?_;refine nt (sr (fr 1 ?_));refine lo jP ?_;refine fr 1 ?_;refine lo wR ?_;obtain⟨mc,M,h⟩:=aa h;refine jb (av [.tmp 66,.tmp 67] rfl rfl RS rfl (pN k a0 U mc M)) ?_;refine aq (nt (sr ?_));refine mq ?_;refine jb (eZ rfl) ?_;refine nt (cn h (λh=>?_) (λh=>?_))
         .refine sr (mq ?_);refine aq (nt (ax (br (ba (aZ ?_)))));obtain rfl:=hR _ h;exact ra
         .refine bf (aX (tn (ab ?_)));obtain⟨Q,D,h⟩:=aa h;refine jb (bo rfl D) ?_;refine mq (nl ?_);exact jz ((),Q) h [1]
        .refine xa ?_;exact jz ((),()) h []
       .refine sr (cq (nt (ax ?_)));cases h;exact ra
def cC(k:Nat)(a0:ae)(a1:Int):Nat->((List Int)×Int)->Option (List Int)
 |0,_=>none
 |n+1,y5=>
  if y5.2 < 5 then((((cN (0≤y5.2/\y5.2 < 5)).bind λ_=>
  (eK k a1 y5.2).bind λe=>
  if e=true then((cN (0≤y5.2/\y5.2 < 5)).bind λ_=>
  some (List.set (List.set y5.1 (Int.toNat y5.2) (-1:Int)) (Int.toNat y5.2) a0.2.1)) else(some (List.set y5.1 (Int.toNat y5.2) (-1:Int)))):Option ((List Int))).bind λx7=>
  (ck (y5.2+1)).bind λc=>
  cC k a0 a1 n (x7,c)) else(some y5.1)
def eD(k:Nat)(a0:ae)(a1:Int):Option (List Int):=
 ((cC k a0 a1 k ([0,0,0,0,0],0)):Option ((List Int))).bind λx3=>
 some x3
theorem pK{M:Md Tryz.prog}{bm:Nat}{c0 c1 c2 c3 c4 c5:Value}(hK:Kn M bm 0 [c0,c1,c2,c3,c4,c5])(k:Nat)(a0:ae)(a1:Int)(r:(List Int))(h:eD k a0 a1=some r):
 cj M 78 [.rep (.mo (Pv bm) [c0,c1,c2,c3,c4,c5] au) a0,.eq (.int .u8 a1)] [] (λ_:Unit=>(bJ [.rep Tr r],[])):=by
 unfold eD at h
 replace h:=bq h
 refine cj.of 24 Tryz.func78 rfl Tryz.ntmps78 rfl λS w0=>?_
 refine sr ?_
 refine bg rfl rfl rfl (bI rfl ID KN) trivial λb1=>?_
 refine nt ?_
 refine sr ?_
 refine bg rfl rfl rfl (bI rfl ID KN) trivial λb2=>?_
 refine nt ?_
 refine aG (Z:=Unit) (α:=(List Int)) (λz4 x3=>[(4,Pt b1),(5,Pt b2)]) (λz4 x3=>[.obj b1 78 (.rep Tr [0,0,0,0,0]),.obj b2 78 (.rep Tr x3)]) h (λK h=>?_) (λz4 x3 h=>?_)
 .
  refine sr (fa rfl ?_);refine nt (aj (aH (λz6 y5=>[(0,.rep (.mo (Pv bm) [c0,c1,c2,c3,c4,c5] au) a0),(1,.eq (.int .u8 a1)),(4,Pt b1),(5,Pt b2),(7,I y5.2)]) (λz6 y5=>[.obj b1 78 (.rep Tr [0,0,0,0,0]),.obj b2 78 (.rep Tr y5.1)]) (cC k a0 a1) k () ([0,0,0,0,0],0) (λ_=>rfl) h (SE.fin [1,0] ⟨rfl,rfl,rfl,rfl,rfl,trivial⟩ rfl) (λn z6 y5 h=>?_)));unfold cC at h;refine sr (jb (bA rfl) ?_);refine nt (ak (ci h (λh=>?_) (λh=>?_)))
  .refine sk (aG (Z:=Unit) (α:=(List Int)) (λz8 x7=>[(0,.rep (.mo (Pv bm) [c0,c1,c2,c3,c4,c5] au) a0),(1,.eq (.int .u8 a1)),(4,Pt b1),(5,Pt b2),(7,I y5.2)]) (λz8 x7=>[.obj b1 78 (.rep Tr [0,0,0,0,0]),.obj b2 78 (.rep Tr x7)]) h (λK h=>?_) (λz8 x7 h=>?_))
   .refine aj (sr (mq ?_));refine aq (nt (sr ?_));refine mq ?_;obtain⟨u9,e,h⟩:=aa h;refine jb (dM rfl Bm bV (ao e).1 (ao e).2) ?_;refine fr 1 ?_;refine aW rfl rfl (ge (t:=Ti) (off:=0) (i:=y5.2) (N:=5) rfl bV .int rfl rfl rfl rfl (ao e).1 (ao e).2 rfl) ⟨rfl,rfl,trivial⟩ ?_;refine nt (sr ?_);iterate 2 refine mq ?_
    obtain⟨u,l,h⟩:=aa h;refine jb (av [.tmp 12,.tmp 13] rfl rfl HA rfl (gg k a1 y5.2 u l)) ?_;refine nt (cv h (λh=>?_) (λh=>?_))
    .refine ab ?_;iterate 2 refine mq ?_
     refine ja (kR rfl) ?_;refine ja (gf rfl gC) ?_;refine ja (ii 1 false rfl xz rfl rfl) ?_;refine ja (iZ (t:=Ti) rfl bV (hK.sub 1 1 rfl (le_of_ble_eq_true rfl)) rfl rfl) ?_;obtain⟨x,c,h⟩:=aa h;refine jb (dM rfl Bm bV (ao c).1 (ao c).2) ?_;refine aW rfl rfl (ge (t:=Ti) (off:=0) (i:=y5.2) (N:=5) rfl bV .int rfl rfl rfl rfl (ao c).1 (ao c).2 rfl) ⟨rfl,rfl,trivial⟩ ?_;refine aA (bn ?_);exact jz ((),List.set (List.set y5.1 (Int.toNat y5.2) (-1:Int)) (Int.toNat y5.2) a0.2.1) h [1,0]
    .refine bf (bn ?_);exact jz ((),List.set y5.1 (Int.toNat y5.2) (-1:Int)) h [1,0]
   .refine ab ?_;obtain⟨s,j,h⟩:=aa h;refine jb (bo rfl j) ?_;refine mq (nl ?_);exact jz ((),(x7,s)) h [0,1]
  .refine xa ?_;exact jz ((),y5.1) h [0,1]
 .
  refine sr (fr 1 ?_);refine lo iV ?_;refine fr 1 ?_;refine aW rfl rfl (aS rfl iV rfl rfl rfl) ⟨rfl,rfl,trivial⟩ ?_;refine nt (ax ?_);obtain rfl:=Option.some.inj h;exact aP () [.rep Tr x3] 0 ⟨⟨_,_,_,_,_,rfl,(.head _),iV,(vk),rfl⟩,trivial⟩ rfl
def dj(k:Nat)(a0:(List Int))(a1:Int):Nat->Int->Option (Except Int Unit)
 |0,_=>none
 |n+1,y3=>
  if y3 < (a0.length:Int) then((aJ a0 y3).bind λx5=>
  if a1=x5 then(some (.error y3)) else((ck (y3+1)).bind λx6=>
  dj k a0 a1 n x6)) else(some (.ok ()))
def fV(k:Nat)(a0:(List Int))(a1:Int):Option Int:=
 bE (α:=Unit) (dj k a0 a1 k 0) (some) λ_=>
 some (-1:Int)
theorem l7(k:Nat)(a0:(List Int))(a1:Int)(r:Int)(h:fV k a0 a1=some r):
 dF Tryz.prog 80 [.rep Tl a0,I a1] [] (λ_:Unit=>(bJ [I r],[])):=by
 unfold fV at h
 replace h:=bq h
 refine dF.of 19 Tryz.func80 rfl Tryz.ntmps80 rfl λS w0=>?_
 refine sr ?_
 refine cq ?_
 refine nt ?_
 refine c7 (Z:=Unit) (α:=Unit) (λz2 x1=>[]) (λz2 x1=>[]) (λe=>e=r) h (λe h=>Option.some.inj h) (λK hR h=>?_) (λz2 x1 h=>?_)
 .
  refine sr (mq ?_);refine ol fM ?_;refine fa rfl ?_;refine nt (aj (aH (λz4 y3=>[(0,.rep Tl a0),(1,I a1),(7,I (a0.length:Int)),(8,I y3)]) (λz4 y3=>[]) (dj k a0 a1) k () 0 (λ_=>rfl) h (SE.fin [] ⟨rfl,rfl,rfl,rfl,trivial⟩ rfl) (λn z4 y3 h=>?_)));unfold dj at h;refine sr (jb (bA rfl) ?_);refine nt (ak (ci h (λh=>?_) (λh=>?_)))
  .refine sk (ak (aj (sr (mq ?_))));refine aq (nt (sr ?_));iterate 3 refine mq ?_
   obtain⟨x5,j,h⟩:=aa h;refine jb (aI (t:=Ti) rfl fM bV j) ?_;refine ja (am (t:=Ti) rfl bV rfl) ?_;refine jb (iD rfl) ?_;refine nt (ci h (λh=>?_) (λh=>?_))
   .refine sr (mq ?_);refine aq (nt (ax (br (ba (aZ ?_)))));obtain rfl:=hR _ h;exact ra
   .refine bf (aX (tn (ab ?_)));obtain⟨x6,c,h⟩:=aa h;refine jb (bo rfl c) ?_;refine mq (nl ?_);exact jz ((),x6) h []
  .refine xa ?_;exact jz ((),()) h []
 .
  refine sr (cq (nt (ax ?_)));cases h;exact ra
def kD(k:Nat)(a0:Int):Option Bool:=
 some (!decide (a0=a0))
theorem qT(k:Nat)(a0:Int)(r:Bool)(h:kD k a0=some r):
 dF Tryz.prog 153 [I a0] [] (λ_:Unit=>(bJ [.eq (.bool r)],[])):=by
 unfold kD at h
 replace h:=bq h
 refine dF.of 6 Tryz.func153 rfl Tryz.ntmps153 rfl λS w0=>?_
 refine sr ?_
 refine cq ?_
 refine nt ?_
 refine sr ?_
 iterate 2 refine mq ?_
 refine jb (eZ rfl) ?_
 refine aq ?_
 refine nt ?_
 refine ax ?_
 cases h
 exact ra
def nY(k:Nat)(a0:Int)(a1:Int):Option Bool:=
 (((kD k a0).bind λr3=>
 if r3=true then((kD k a1).bind λr4=>
 if¬(r4=true) then(some true) else(some (decide (a0 < a1)))) else(some (decide (a0 < a1)))):Option (Bool)).bind λx1=>
 some x1
theorem zw(k:Nat)(a0:Int)(a1:Int)(r:Bool)(h:nY k a0 a1=some r):
 dF Tryz.prog 143 [I a0,I a1] [] (λ_:Unit=>(bJ [.eq (.bool r)],[])):=by
 unfold nY at h
 replace h:=bq h
 refine dF.of 17 Tryz.func143 rfl Tryz.ntmps143 rfl λS w0=>?_
 refine sr ?_
 refine cq ?_
 refine nt ?_
 refine aG (Z:=Unit) (α:=Bool) (λz2 x1=>[(4,.eq (.bool x1))]) (λz2 x1=>[]) h (λK h=>?_) (λz2 x1 h=>?_)
 .
  refine ab (mq ?_);obtain⟨r3,e,h⟩:=aa h;refine ja (av [.tmp 5] rfl rfl LK rfl (qT k a0 r3 e)) ?_;refine mq ?_;refine cE (s:=7) rfl (λhb=>?_) (λhb=>?_)
  .replace h:=ec (IS hb) h;refine gm ?_;obtain⟨r4,c,h⟩:=aa h;refine ga (av [.tmp 8] rfl rfl LK rfl (qT k a1 r4 c)) ?_;refine ga (gU rfl) ?_;refine pt ?_;refine mq ?_;refine cE (s:=12) rfl (λhb=>?_) (λhb=>?_)
   .replace h:=ec (AI hb) h;iterate 3 refine gn ?_
    refine pt ?_;refine aq (nl ?_);exact jz ((),true) h []
   .replace h:=cJ (t9 hb) h;refine gm ?_;refine gm ?_;refine gb (bA rfl) ?_;refine pf ?_;refine aq (nl ?_);exact jz ((),decide (a0 < a1)) h []
  .replace h:=cJ (IT hb) h;iterate 3 refine gn ?_
   refine pf ?_;refine mq ?_;refine gm ?_;refine gm ?_;refine gb (bA rfl) ?_;refine pf ?_;refine aq (nl ?_);exact jz ((),decide (a0 < a1)) h []
 .
  refine ax ?_;cases h;exact ra
def bD(k:Nat)(a1:Int):Nat->((List Int)×Int)->Option (List Int)
 |0,_=>none
 |n+1,y6=>
  ((if a1 < y6.2 then((aJ y6.1 y6.2).bind λu=>
  (ck (y6.2 - 1)).bind λs=>
  (aJ y6.1 s).bind λr=>
  (nY k u r).bind λx=>
  some x) else(some false)):Option (Bool)).bind λx8=>
  if x8=true then((ck (y6.2 - 1)).bind λe=>
  (ck (y6.2 - 1)).bind λl=>
  (aJ y6.1 l).bind λc=>
  (aJ y6.1 y6.2).bind λj=>
  (aJ y6.1 y6.2).bind λD=>
  (aJ (List.set y6.1 (Int.toNat y6.2) c) e).bind λy=>
  (ck (y6.2 - 1)).bind λh=>
  bD k a1 n (List.set (List.set y6.1 (Int.toNat y6.2) c) (Int.toNat e) j,h)) else(some y6.1)
def bb(k:Nat)(a1:Int)(a2:Int):Nat->((List Int)×Int)->Option (List Int)
 |0,_=>none
 |n+1,y2=>
  if y2.2 < a2 then(((bD k a1 k (y2.1,y2.2)):Option ((List Int))).bind λx4=>
  (ck (y2.2+1)).bind λc=>
  bb k a1 a2 n (x4,c)) else(some y2.1)
def bP(k:Nat)(a0:(List Int))(a1:Int)(a2:Int):Option (List Int):=
 (ck (a1+1)).bind λx1=>
 bb k a1 a2 k (a0,x1)
theorem iW(k:Nat)(a0:(List Int))(c:Value)(a1:Int)(a2:Int)(r:(List Int))(h:bP k a0 a1 a2=some r):
 dF Tryz.prog 137 [.eq c,I a1,I a2] [.sl c 3 Ti a0] (λ_:Unit=>(bJ [],[.sl c 3 Ti r])):=by
 unfold bP at h
 replace h:=bq h
 refine dF.of 49 Tryz.func137 rfl Tryz.ntmps137 rfl λS w0=>?_
 refine sr ?_
 refine mq ?_
 obtain⟨x1,Uj,h⟩:=aa h
 refine jb (bo rfl Uj) ?_
 refine aq ?_
 refine nt ?_
 refine aj ?_
 refine aH (λz3 y2=>[(0,.eq c),(1,I a1),(2,I a2),(6,I y2.2)]) (λz3 y2=>[.sl c 3 Ti y2.1]) (bb k a1 a2) k () (a0,x1) (λ_=>rfl) h (SE.fin [0] ⟨rfl,rfl,rfl,rfl,trivial⟩ rfl) (λn z3 y2 h=>?_)
 unfold bb at h
 refine ak ?_
 refine sr ?_
 iterate 2 refine mq ?_
 refine jb (bA rfl) ?_
 refine nt ?_
 refine ci h (λh=>?_) (λh=>?_)
 .
  refine sk (aG (Z:=Unit) (α:=(List Int)) (λz5 x4=>[(0,.eq c),(1,I a1),(2,I a2),(6,I y2.2)]) (λz5 x4=>[.sl c 3 Ti x4]) h (λK h=>?_) (λz5 x4 h=>?_))
  .refine aj (sr (mq ?_));refine aq (nt (aj ?_));refine aH (λz7 y6=>[(0,.eq c),(1,I a1),(2,I a2),(6,I y2.2),(7,I y6.2)]) (λz7 y6=>[.sl c 3 Ti y6.1]) (bD k a1) k () (y2.1,y2.2) (λ_=>rfl) h (SE.fin [0] ⟨rfl,rfl,rfl,rfl,rfl,trivial⟩ rfl) (λn z7 y6 h=>?_);unfold bD at h;refine ak (aG (Z:=Unit) (α:=Bool) (λz9 x8=>[(0,.eq c),(1,I a1),(2,I a2),(6,I y2.2),(7,I y6.2),(30,.eq (.bool x8))]) (λz9 x8=>[.sl c 3 Ti y6.1]) h (λK h=>?_) (λz9 x8 h=>?_))
   .refine cP ?_;refine dm ?_;refine dm ?_;refine db (me rfl) ?_;refine lR rfl rfl rfl (aQ rfl) ⟨rfl,trivial⟩ (λhb=>?_) (λhb=>?_)
    .replace h:=ec (sx hb) h;refine aC rfl rfl rfl rfl rfl (aQ rfl) ⟨rfl,rfl,trivial⟩ ?_;refine aC rfl rfl rfl rfl rfl (aQ rfl) ⟨rfl,rfl,trivial⟩ ?_;obtain⟨T9,x,h⟩:=aa h;refine iU 0 rfl rfl rfl rfl rfl rfl (cG (t:=Ti) rfl fM bV x) ⟨rfl,rfl,rfl,trivial⟩ ?_;refine iU 0 rfl rfl rfl rfl rfl rfl (gu (i:=Int.toNat y6.2) (off:=0) rfl bV (λ_=>rfl) rfl (dD x).2.2 rfl) ⟨rfl,rfl,trivial⟩ ?_;refine aC rfl rfl rfl rfl rfl (aQ rfl) ⟨rfl,rfl,trivial⟩ ?_;refine aC rfl rfl rfl rfl rfl (aQ rfl) ⟨rfl,rfl,trivial⟩ ?_;obtain⟨T8,zz,h⟩:=aa h;refine aC rfl rfl rfl rfl rfl (dY rfl zz) ⟨rfl,rfl,rfl,trivial⟩ ?_;obtain⟨TZ,u,h⟩:=aa h;refine iU 0 rfl rfl rfl rfl rfl rfl (cG (t:=Ti) rfl fM bV u) ⟨rfl,rfl,rfl,trivial⟩ ?_;refine iU 0 rfl rfl rfl rfl rfl rfl (gu (i:=Int.toNat T8) (off:=0) rfl bV (λ_=>rfl) rfl (dD u).2.2 rfl) ⟨rfl,rfl,trivial⟩ ?_;refine df dN ?_;obtain⟨F,TV,h⟩:=aa h;refine gb (av [.tmp 23,.tmp 28] rfl rfl Qd rfl (zw k T9 TZ F TV)) ?_;refine pt (nl ?_);exact jz ((),F) h [0]
    .replace h:=cJ (sB hb) h;iterate 9 refine dg ?_
     refine df dN ?_;refine gn ?_;refine pf (nl ?_);exact jz ((),false) h [0]
   .refine cv h (λh=>?_) (λh=>?_)
    .refine sk (ak (aj (rj ?_)));refine cF rfl rfl rfl (aQ rfl) ⟨rfl,trivial⟩ ?_;refine cF rfl rfl rfl (aQ rfl) ⟨rfl,trivial⟩ ?_;refine cF rfl rfl rfl (aQ rfl) ⟨rfl,trivial⟩ ?_;refine cF rfl rfl rfl (aQ rfl) ⟨rfl,trivial⟩ ?_;obtain⟨y,qt,h⟩:=aa h;refine cF rfl rfl rfl (dY rfl qt) ⟨rfl,rfl,trivial⟩ ?_;refine cF rfl rfl rfl (aQ rfl) ⟨rfl,trivial⟩ ?_;refine cF rfl rfl rfl (aQ rfl) ⟨rfl,trivial⟩ ?_;obtain⟨TY,mw,h⟩:=aa h;refine cF rfl rfl rfl (dY rfl mw) ⟨rfl,rfl,trivial⟩ ?_;obtain⟨E,s,h⟩:=aa h;refine iT 0 rfl rfl rfl rfl (cG (t:=Ti) rfl fM bV s) ⟨rfl,rfl,trivial⟩ ?_;refine iT 0 rfl rfl rfl rfl (gu (i:=Int.toNat TY) (off:=0) rfl bV (λ_=>rfl) rfl (dD s).2.2 rfl) ⟨rfl,trivial⟩ ?_;refine cF rfl rfl rfl (aQ rfl) ⟨rfl,trivial⟩ ?_;refine cF rfl rfl rfl (aQ rfl) ⟨rfl,trivial⟩ ?_;obtain⟨D,l,h⟩:=aa h;refine iT 0 rfl rfl rfl rfl (cG (t:=Ti) rfl fM bV l) ⟨rfl,rfl,trivial⟩ ?_;refine iT 0 rfl rfl rfl rfl (gu (i:=Int.toNat y6.2) (off:=0) rfl bV (λ_=>rfl) rfl (dD l).2.2 rfl) ⟨rfl,trivial⟩ ?_;obtain⟨Us,j,h⟩:=aa h;refine iT 0 rfl rfl rfl rfl (cG (t:=Ti) rfl fM bV j) ⟨rfl,rfl,trivial⟩ ?_;refine yb 15 [true,true,false,false,false,true,true,true,true,true,true,true,true,true,true] [48] [] [] rfl (by kernel_rfl) (by kernel_rfl) (by kernel_rfl) dN (λvs hv hB=>?_);obtain⟨w0,UH,rfl,Ui⟩:=aE hv;obtain⟨w1,UG,rfl,Uh⟩:=aE Ui;obtain⟨w2,UF,rfl,Ug⟩:=aE Uh;obtain⟨w3,UE,rfl,Uf⟩:=aE Ug;obtain⟨w4,UD,rfl,Ue⟩:=aE Uf;obtain⟨w5,UC,rfl,Ud⟩:=aE Ue;obtain⟨w6,UB,rfl,Uc⟩:=aE Ud;obtain⟨w7,UA,rfl,Ub⟩:=aE Uc;obtain⟨w8,Uz,rfl,Ua⟩:=aE Ub;obtain⟨w9,Up,rfl,X⟩:=aE Ua;obtain⟨Uy,Uo,rfl,U⟩:=aE X;obtain⟨Ux,Un,rfl,Q⟩:=aE U;obtain⟨Uw,Um,rfl,O⟩:=aE Q;obtain⟨Uu,Ul,rfl,M⟩:=aE O;obtain⟨Ut,Uk,rfl,J⟩:=aE M;obtain rfl:=tw J;refine⟨[0],[.sl c 3 Ti y6.1],by kernel_rfl,by decide,?_⟩;refine sK rfl rfl (gd (i:=Int.toNat y6.2) rfl bV rfl (mR j) rfl .int rfl) ⟨rfl,rfl,trivial⟩ (by kernel_rfl) ?_;obtain⟨Ur,e,h⟩:=aa h;refine Br rfl rfl rfl rfl (cG (t:=Ti) rfl fM bV e) ⟨rfl,rfl,trivial⟩ (by kernel_rfl) ?_;refine sK rfl rfl (gd (i:=Int.toNat y) rfl bV rfl (mR e) rfl .int rfl) ⟨rfl,rfl,trivial⟩ (by kernel_rfl) ?_;refine xY ?_;refine bX (SE.fin (Γ':=[(0,.eq c),(1,I a1),(2,I a2),(6,I y2.2),(7,I y6.2)]) (Δ':=[.sl c 3 Ti (List.set (List.set y6.1 (Int.toNat y6.2) E) (Int.toNat y) D)]) [0] ⟨rfl,rfl,rfl,rfl,rfl,trivial⟩ rfl) ?_;refine aX (tn (ab (mq ?_)));obtain⟨TX,mc,h⟩:=aa h;refine jb (dY rfl mc) ?_;refine aq (nl ?_);exact jz ((),(List.set (List.set y6.1 (Int.toNat y6.2) E) (Int.toNat y) D,TX)) h [0]
    .refine eW (bF (bF (cO (bn ?_))));exact jz ((),y6.1) h [0]
  .refine ab (mq ?_);obtain⟨TW,Y,h⟩:=aa h;refine jb (bo rfl Y) ?_;refine aq (nl ?_);exact jz ((),(x4,TW)) h [0]
 .
  refine eW (bF (bF (cO (jM ?_))));cases h;exact aP () [] 1 trivial rfl
def jW(k:Nat)(a0:Int):Option Int:=
 ((if 4294967296≤a0 then(some (gZ .u64 a0 32,32)) else(some (a0,0))):Option (Int×Int)).bind λx1=>
 ((if 65536≤x1.1 then((ck (x1.2+16)).bind λx5=>
 some (gZ .u64 x1.1 16,x5)) else(some (x1.1,x1.2))):Option (Int×Int)).bind λx3=>
 ((if 256≤x3.1 then((ck (x3.2+8)).bind λx8=>
 some (gZ .u64 x3.1 8,x8)) else(some (x3.1,x3.2))):Option (Int×Int)).bind λx6=>
 (AY JZ (IntKind.u8.wrap x6.1)).bind λx9=>
 (ck (x9.toNat:Int)).bind λe=>
 (ck (x6.2+e)).bind λc=>
 some c
theorem pT(k:Nat)(a0:Int)(r:Int)(h:jW k a0=some r):
 dF Tryz.prog 147 [.eq (.int .u64 a0)] [] (λ_:Unit=>(bJ [I r],[])):=by
 unfold jW at h
 replace h:=bq h
 refine dF.of 25 Tryz.func147 rfl Tryz.ntmps147 rfl λS w0=>?_
 refine sr ?_
 refine cq ?_
 refine nt ?_
 refine aG (Z:=Unit) (α:=Int×Int) (λz2 x1=>[(0,.eq (.int .u64 x1.1)),(2,I x1.2)]) (λz2 x1=>[]) h (λK h=>?_) (λz2 x1 h=>?_)
 .
  refine sr (mq ?_);refine jb (iC rfl) ?_;refine nt (ci h (λh=>?_) (λh=>?_))
  .refine sr (mq ?_);refine bZ rfl (t8 rfl (by decide)) ⟨rfl,rfl,trivial⟩ ?_;refine aq (nt (ab ?_));refine cq (nl ?_);exact jz ((),(gZ .u64 a0 32,32)) h []
  .refine bf (an ?_);exact jz ((),(a0,0)) h []
 .
  refine aG (Z:=Unit) (α:=Int×Int) (λz4 x3=>[(0,.eq (.int .u64 x3.1)),(2,I x3.2)]) (λz4 x3=>[]) h (λK h=>?_) (λz4 x3 h=>?_)
  .refine sr (mq ?_);refine jb (iC rfl) ?_;refine nt (ci h (λh=>?_) (λh=>?_))
   .refine sr (mq ?_);refine bZ rfl (t8 rfl (by decide)) ⟨rfl,rfl,trivial⟩ ?_;refine aq (nt (ab ?_));refine mq ?_;obtain⟨x5,n,h⟩:=aa h;refine jb (bo rfl n) ?_;refine aq (nl ?_);exact jz ((),(gZ .u64 x1.1 16,x5)) h []
   .refine bf (an ?_);exact jz ((),(x1.1,x1.2)) h []
  .refine aG (Z:=Unit) (α:=Int×Int) (λz7 x6=>[(0,.eq (.int .u64 x6.1)),(2,I x6.2)]) (λz7 x6=>[]) h (λK h=>?_) (λz7 x6 h=>?_)
   .refine sr (mq ?_);refine jb (iC rfl) ?_;refine nt (ci h (λh=>?_) (λh=>?_))
    .refine sr (mq ?_);refine bZ rfl (t8 rfl (by decide)) ⟨rfl,rfl,trivial⟩ ?_;refine aq (nt (ab ?_));refine mq ?_;obtain⟨x8,l,h⟩:=aa h;refine jb (bo rfl l) ?_;refine aq (nl ?_);exact jz ((),(gZ .u64 x3.1 8,x8)) h []
    .refine bf (an ?_);exact jz ((),(x3.1,x3.2)) h []
   .refine sr ?_;iterate 2 refine mq ?_
    refine ja (rK rfl QR U5) ?_;obtain⟨x9,j,h⟩:=aa h;refine ja (yL rfl U9 j) ?_;obtain⟨u,e,h⟩:=aa h;refine ja (yM rfl U5 U3 e) ?_;obtain⟨s,c,h⟩:=aa h;refine jb (bo rfl c) ?_;refine aq (nt (ax ?_));cases h;exact ra
def oU(k:Nat)(a0:Int):Option Int:=
 (jW k a0).bind λr1=>
 some r1
theorem Be(k:Nat)(a0:Int)(r:Int)(h:oU k a0=some r):
 dF Tryz.prog 136 [.eq (.int .u64 a0)] [] (λ_:Unit=>(bJ [I r],[])):=by
 unfold oU at h
 replace h:=bq h
 refine dF.of 8 Tryz.func136 rfl Tryz.ntmps136 rfl λS w0=>?_
 refine sr ?_
 refine cq ?_
 refine nt ?_
 refine ak ?_
 refine Ip (λhb=>(by cases hb)) (λhb=>?_)
 refine sk ?_
 refine sr ?_
 refine mq ?_
 obtain⟨r1,c,h⟩:=aa h
 have e:=pT k a0 r1 c
 refine ja (av [.tmp 6] rfl rfl Qc rfl e) ?_
 refine aq ?_
 refine nt ?_
 refine ax ?_
 cases h
 exact ra
def cx(k:Nat)(a0:(List Int))(a1:Int)(a2:Int)(a3:Int):Nat->Unit->Option (List Int)
 |0,_=>none
 |n+1,y1=>
  (ck (a2 - a1)).bind λx3=>
  if x3≤12 then((bP k a0 a1 a2).bind λr4=>
  some r4) else(if a3=0 then(none) else(none))
def cR(k:Nat)(a0:(List Int))(a1:Int)(a2:Int)(a3:Int):Option (List Int):=
 cx k a0 a1 a2 a3 k ()
theorem lx(k:Nat)(a0:(List Int))(c:Value)(a1:Int)(a2:Int)(a3:Int)(r:(List Int))(h:cR k a0 a1 a2 a3=some r):
 dF Tryz.prog 135 [.eq c,I a1,I a2,I a3] [.sl c 3 Ti a0] (λ_:Unit=>(bJ [],[.sl c 3 Ti r])):=by
 unfold cR at h
 replace h:=bq h
 refine dF.of 134 Tryz.func135 rfl Tryz.ntmps135 rfl λS w0=>?_
 refine sr ?_
 refine cq ?_
 refine nt ?_
 refine sr ?_
 refine cq ?_
 refine nt ?_
 refine aj ?_
 refine aH (λz2 y1=>[(0,.eq c),(1,I a1),(2,I a2),(3,I a3),(8,.eq (.bool true)),(9,.eq (.bool true))]) (λz2 y1=>[.sl c 3 Ti a0]) (cx k a0 a1 a2 a3) k () () (λ_=>rfl) h (SE.fin [0] ⟨rfl,rfl,rfl,rfl,rfl,rfl,trivial⟩ rfl) (λn z2 y1 h=>?_)
 unfold cx at h
 refine aj ?_
 refine sr ?_
 iterate 2 refine mq ?_
 obtain⟨x3,e,h⟩:=aa h
 refine jb (dY rfl e) ?_
 refine aq ?_
 refine nt ?_
 refine ak ?_
 refine sr ?_
 refine mq ?_
 refine jb (BL rfl) ?_
 refine nt ?_
 refine ci h (λh=>?_) (λh=>?_)
 .
  refine sr ?_;iterate 3 refine mq ?_
  obtain⟨r4,j,h⟩:=aa h;refine kc (av [.tmp 24,.tmp 25,.tmp 26] rfl rfl Qe rfl (iW k a0 c a1 a2 r4 j)) ?_;refine nt (rx (ba (aZ (ba ?_))));cases h;exact aP () [] 1 trivial rfl
 .
  refine sk (ak (sr (mq ?_)));refine jb (iD rfl) ?_;refine nt (ci h (λh=>?_) (λh=>?_))
  .cases h
  .cases h
def fF(k:Nat)(a0:(List Int)):Option (List Int):=
 (oU k (IntKind.u64.wrap (a0.length:Int))).bind λr1=>
 (cR k a0 0 (a0.length:Int) r1).bind λr2=>
 some r2
theorem s4(k:Nat)(a0:(List Int))(c:Value)(r:(List Int))(h:fF k a0=some r):
 dF Tryz.prog 122 [.eq c] [.sl c 3 Ti a0] (λ_:Unit=>(bJ [],[.sl c 3 Ti r])):=by
 unfold fF at h
 replace h:=bq h
 refine dF.of 11 Tryz.func122 rfl Tryz.ntmps122 rfl λS w0=>?_
 refine sr ?_
 refine mq ?_
 refine ka (ma rfl rfl fM) ?_
 refine aq ?_
 refine nt ?_
 refine ab ?_
 iterate 3 refine mq ?_
 refine ja (rK rfl U3 SS) ?_
 obtain⟨r1,j,h⟩:=aa h
 have n:=Be k (IntKind.u64.wrap (a0.length:Int)) r1 j
 refine ja (av [.tmp 8] rfl rfl Qf rfl n) ?_
 obtain⟨r2,e,h⟩:=aa h
 have l:=lx k a0 c 0 (a0.length:Int) r1 r2 e
 refine lU rfl rfl rfl (av [.tmp 5,.const (.int .i64 (0)),.tmp 6,.tmp 9] rfl rfl Qg rfl l) ⟨rfl,rfl,rfl,rfl,trivial⟩ ?_
 refine aA ?_
 refine jM ?_
 cases h
 exact aP () [] 1 trivial rfl
def cD(k:Nat)(a1:Int)(x3:(List (List Int))):Nat->Int->Option (Except (Int ⊕ (List Int)) Unit)
 |0,_=>none
 |n+1,y4=>
  if y4 < (x3.length:Int) then((aJ x3 y4).bind λx6=>
  (fV k x6 a1).bind λr7=>
  if 0≤r7 then(((if 0 < r7 then((ck (r7 - 1)).bind λs=>
  (aJ x6 s).bind λe=>
  (cN (cu (length ([]:(List Int))+length [e]))).bind λ_=>
  some (([]:(List Int))++[e])) else(some ([]:(List Int)))):Option ((List Int))).bind λx8=>
  (((ck (r7+1)).bind λl=>
  if l < (x6.length:Int) then((ck (r7+1)).bind λj=>
  (aJ x6 j).bind λc=>
  (cN (cu (length x8+length [c]))).bind λ_=>
  some (x8++[c])) else(some x8)):Option ((List Int))).bind λr=>
  (fF k r).bind λu=>
  some (.error (Sum.inr u:(Int ⊕ (List Int))))) else((ck (y4+1)).bind λh=>
  cD k a1 x3 n h)) else(some (.ok ()))
def dS(k:Nat):Nat->ae->Int->Int->Option ((Int ⊕ (List Int)))
 |0,_,_,_=>none
 |m0+1,a0,a1,a2=>
  bE (α:=Unit) ((aJ a0.2.2.2.2.1 a2).bind λx3=>
  cD k a1 x3 k 0) (some) λ_=>
  ((if 0 < a2 then((ck (a2 - 1)).bind λh=>
  ((dS k m0) a0 a1 h).bind λc=>
  if Jf c=true then((ck (1+(O1 c))).bind λe=>
  some e) else(some 1)) else(some 1)):Option (Int)).bind λj=>
  some (Sum.inl j:(Int ⊕ (List Int)))
theorem kV{M:Md Tryz.prog}{bm:Nat}{c0 c1 c2 c3 c4 c5:Value}(hK:Kn M bm 0 [c0,c1,c2,c3,c4,c5])(k:Nat):
 ∀(n:Nat) (a0:ae) (a1:Int) (a2:Int) (r:(Int ⊕ (List Int))),dS k n a0 a1 a2=some r->cj M 99 [.rep (.mo (Pv bm) [c0,c1,c2,c3,c4,c5] au) a0,I a1,I a2] ([]) (λ_:Unit=>(bJ [.rep (.pl 158 160 Tl) r],[])):=by
 intro n
 induction n with
 |zero=>intro a0 a1 a2 r h;cases h
 |succ m0 ih=>
  intro a0 a1 a2 r h;rw [dS] at h;replace h:=bq h;refine cj.of 80 Tryz.func99 rfl Tryz.ntmps99 rfl λS w0=>?_;refine sr (cq (nt ?_));refine c7 (Z:=Unit) (α:=Unit) (λz2 x1=>[(0,.rep (.mo (Pv bm) [c0,c1,c2,c3,c4,c5] au) a0),(1,I a1),(2,I a2)]) (λz2 x1=>[]) (λe=>e=r) h (λe h=>Option.some.inj h) (λK hR h=>?_) (λz2 x1 h=>?_)
  .refine sr (mq ?_);refine ja (kR rfl) ?_;refine ja (gf rfl gC) ?_;refine ja (ii 1 false rfl dU rfl rfl) ?_;refine ja (iZ (t:=(.slice (.slice Tl))) rfl kh (hK.sub 4 1 rfl (le_of_ble_eq_true rfl)) rfl rfl) ?_;refine mq ?_;obtain⟨x3,T9,h⟩:=aa h;refine jb (aI (t:=(.slice Tl)) rfl yi sZ T9) ?_;refine ja (am (t:=(.slice Tl)) rfl sZ rfl) ?_;refine ol qY ?_;refine fa rfl ?_;refine nt (aj (aH (λz5 y4=>[(0,.rep (.mo (Pv bm) [c0,c1,c2,c3,c4,c5] au) a0),(1,I a1),(2,I a2),(21,.rep (.slice Tl) x3),(22,I (x3.length:Int)),(23,I y4)]) (λz5 y4=>[]) (cD k a1 x3) k () 0 (λ_=>rfl) h (SE.fin [] ⟨rfl,rfl,rfl,rfl,rfl,rfl,trivial⟩ rfl) (λn z5 y4 h=>?_)));unfold cD at h;refine sr (jb (bA rfl) ?_);refine nt (ak (ci h (λh=>?_) (λh=>?_)))
   .refine sk (ak (aj (sr ?_)));obtain⟨x6,T8,h⟩:=aa h;refine jb (aI (t:=Tl) rfl qY gJ T8) ?_;refine ja (am (t:=Tl) rfl gJ rfl) ?_;refine aq (nt (sr ?_));iterate 2 refine mq ?_
    obtain⟨r7,Ua,h⟩:=aa h;refine jb (av [.tmp 27,.tmp 28] rfl rfl P2 rfl (l7 k x6 a1 r7 Ua)) ?_;refine aq (nt (sr ?_));refine mq ?_;refine jb (iC rfl) ?_;refine nt (ci h (λh=>?_) (λh=>?_))
    .refine sr (cq (nt ?_));refine aG (Z:=Value) (α:=(List Int)) (λz9 x8=>[(8,.rep Tl x6),(9,I r7),(10,.eq z9)]) (λz9 x8=>[.sl z9 3 Ti x8]) h (λK h=>?_) (λz9 x8 h=>?_)
     .refine sr (mq ?_);refine jb (me rfl) ?_;refine nt (ci h (λh=>?_) (λh=>?_))
      .refine ab ?_;iterate 3 refine mq ?_
       obtain⟨Ud,U,h⟩:=aa h;refine jb (dY rfl U) ?_;obtain⟨x,Q,h⟩:=aa h;refine jb (aI (t:=Ti) rfl fM bV Q) ?_;refine ja (am (t:=Ti) rfl bV rfl) ?_;refine ja (bi (t:=Ti) [(.tmp 39,_)] [x] rfl rfl dy (.cons rfl .int .nil) rfl rfl) ?_;refine eV (SE.nil 3 Ti) ?_;obtain⟨Uf,Y,h⟩:=aa h;refine ek rfl rfl rfl (cH rfl rfl dy (ao Y)) ⟨rfl,rfl,trivial⟩ λTX=>?_;refine aq (nl ?_);exact jz (TX,([]:(List Int))++[x]) h [0]
      .refine bf (an (bX (SE.nil 3 Ti) ?_));exact jz ((.slice none 0 0),([]:(List Int))) h [0]
     .refine aG (Z:=Value) (α:=(List Int)) (λc j=>[(10,.eq c)]) (λc j=>[.sl c 3 Ti j]) h (λK h=>?_) (λc j h=>?_)
      .refine sr (mq ?_);obtain⟨Uc,O,h⟩:=aa h;refine jb (bo rfl O) ?_;refine mq ?_;refine ol fM ?_;refine jb (bA rfl) ?_;refine nt (ci h (λh=>?_) (λh=>?_))
       .refine ab ?_;iterate 3 refine mq ?_
        obtain⟨Ub,J,h⟩:=aa h;refine jb (bo rfl J) ?_;obtain⟨u,F,h⟩:=aa h;refine jb (aI (t:=Ti) rfl fM bV F) ?_;refine ja (am (t:=Ti) rfl bV rfl) ?_;refine ja (bi (t:=Ti) [(.tmp 52,_)] [u] rfl rfl dy (.cons rfl .int .nil) rfl rfl) ?_;obtain⟨Ue,X,h⟩:=aa h;refine ek rfl rfl rfl (cH rfl rfl dy (ao X)) ⟨rfl,rfl,trivial⟩ λTW=>?_;refine aq (nl ?_);exact jz (TW,x8++[u]) h [0]
       .refine bf (an ?_);exact jz (z9,x8) h [0]
      .refine sr (mq ?_);obtain⟨TZ,mw,h⟩:=aa h;refine ka (av [.tmp 55] rfl rfl Qi rfl (s4 k j c TZ mw)) ?_;refine nt (sr (mq ?_));refine eV (iR [10,55,57] ⟨rfl,rfl,rfl,trivial⟩) ?_;refine ja (ee [(0,.tmp 57,_)] rfl O3 Lp N6 (j7 ⟨rfl,trivial⟩) rfl) ?_;refine ja (Jm (t0:=158) (t:=Ti) rfl SQ) ?_;refine aq (nt (ax (br (ba (aZ ?_)))));obtain rfl:=hR _ h;exact ra
    .refine bf (aX (tn (ab ?_)));obtain⟨TV,E,h⟩:=aa h;refine jb (bo rfl E) ?_;refine mq (nl ?_);exact jz ((),TV) h []
   .refine xa ?_;exact jz ((),()) h []
  .refine sr (cq (nt ?_));refine aG (Z:=Unit) (α:=Int) (λs l=>[(11,I l)]) (λs l=>[]) h (λK h=>?_) (λs l h=>?_)
   .refine sr (mq ?_);refine jb (me rfl) ?_;refine nt (ci h (λh=>?_) (λh=>?_))
    .refine sr ?_;iterate 3 refine mq ?_
     obtain⟨zz,D,h⟩:=aa h;refine jb (dY rfl D) ?_;obtain⟨TY,mc,h⟩:=aa h;refine jc (aY [.tmp 64,.tmp 65,.tmp 67] rfl rfl NJ rfl (ih a0 a1 zz TY mc)) ?_;refine bZ rfl (BM rfl Ft (by decide)) ⟨rfl,trivial⟩ ?_;refine mq ?_;refine xr ?_;refine xr ?_;refine bg rfl rfl rfl (bI rfl ER LR) trivial λUg=>?_;refine aW rfl rfl (aS rfl LC trivial rfl rfl) ⟨rfl,rfl,trivial⟩ ?_;refine aq (nt (sr ?_));refine mq (nt ?_);refine cv h (λh=>?_) (λh=>?_)
     .refine ab (mq ?_);refine fl CG ?_;refine lo bV ?_;obtain⟨qt,y,h⟩:=aa h;refine jb (bo rfl y) ?_;refine aq (nl ?_);exact jz ((),qt) h []
     .refine bf (an ?_);exact jz ((),1) h []
    .refine bf (an ?_);exact jz ((),1) h []
   .refine sr (mq ?_);refine ja (ee [(0,.tmp 77,_)] rfl O4 ER N7 (j7 ⟨rfl,trivial⟩) rfl) ?_;refine ja (Jn (t1:=160) (t:=Ti) rfl SR) ?_;refine aq (nt (ax ?_));cases h;exact ra
def ic(k:Nat)(a0:LM):Option (List Int):=
 some ([]:(List Int))
theorem pM(k:Nat)(a0:LM)(r:(List Int))(h:ic k a0=some r):
 dF Tryz.prog 171 [.rep OU a0] [] (λ_:Unit=>(bJ [.rep Tl r],[])):=by
 unfold ic at h
 replace h:=bq h
 refine dF.of 3 Tryz.func171 rfl Tryz.ntmps171 rfl λS w0=>?_
 refine sr ?_
 refine bx λb1=>?_
 refine cq ?_
 refine nt ?_
 refine sr ?_
 refine cq ?_
 refine nt ?_
 refine ax ?_
 refine bX (eB (t:=Tl) (x:=([]:(List Int))) 2 rfl .nil rfl rfl) ?_
 cases h
 exact ra
def ib(k:Nat)(a0:LL):Option (List Int):=
 some a0
theorem pI(k:Nat)(a0:LL)(r:(List Int))(h:ib k a0=some r):
 dF Tryz.prog 172 [.rep OT a0] [] (λ_:Unit=>(bJ [.rep Tl r],[])):=by
 unfold ib at h
 replace h:=bq h
 refine dF.of 5 Tryz.func172 rfl Tryz.ntmps172 rfl λS w0=>?_
 refine sr ?_
 refine bx λb1=>?_
 refine cq ?_
 refine nt ?_
 refine sr ?_
 refine fl J9 ?_
 refine lo gJ ?_
 refine aq ?_
 refine nt ?_
 refine ax ?_
 cases h
 exact ra
def bS(k:Nat)(a0:ae)(a1:(List Int))(r5:(List Int)):Nat->Int->Option (Except Int Unit)
 |0,_=>none
 |n+1,y6=>
  if y6 < (r5.length:Int) then((aJ r5 y6).bind λx8=>
  (cN (0≤x8/\x8 < 5)).bind λ_=>
  (aJ a1 x8).bind λe=>
  if(sb 0 a0.2.1)≤e then(some (.error x8)) else((ck (y6+1)).bind λc=>
  bS k a0 a1 r5 n c)) else(some (.ok ()))
def cY(k:Nat)(a0:ae)(a1:(List Int))(a2:Int)(a3:Int):Option Int:=
 bE (α:=Unit) ((dS k k a0 a2 a3).bind λr4=>
 (HL r4 (λn=>ic k n) (λl=>ib k l)).bind λr5=>
 bS k a0 a1 r5 k 0) (some) λ_=>
 some (-1:Int)
theorem jB{M:Md Tryz.prog}{bm:Nat}{c0 c1 c2 c3 c4 c5:Value}(hK:Kn M bm 0 [c0,c1,c2,c3,c4,c5])(k:Nat)(a0:ae)(a1:(List Int))(a2:Int)(a3:Int)(r:Int)(h:cY k a0 a1 a2 a3=some r):
    cj M 89 [.rep (.mo (Pv bm) [c0,c1,c2,c3,c4,c5] au) a0,.rep Tr a1,.eq (.int .i64 a2),.eq (.int .i64 a3)] [] (λ_:Unit=>(bJ [.eq (.int .i64 r)],[])):=by
  unfold cY at h
  replace h:=bq h
  refine cj.of 33 Tryz.func89 rfl Tryz.ntmps89 rfl λS w0=>?_
  refine ak ?_
  refine ab ?_
  refine bg rfl rfl rfl (vV rfl rfl) ⟨rfl,trivial⟩ λb1=>?_
  refine Df rfl ?_
  refine aA ?_
  refine an ?_
  show JC _ _ _ _ _
  refine c7 (Z:=Unit) (α:=Unit) (λz3 x2=>[]) (λz3 x2=>[]) (λe=>e=r) h (λe h=>Option.some.inj h) (λK hR h=>?_) (λz3 x2 h=>?_)
  .
    refine ak ?_
    refine ab ?_
    refine gI rfl rfl ?_
    refine gI rfl rfl ?_
    refine gI rfl rfl ?_
    obtain⟨r4,D,h⟩:=aa h
    have E:=kV hK k k a0 a2 a3 r4 D
    refine bZ rfl (aY [.tmp 11,.tmp 12,.tmp 13] rfl rfl NJ rfl E) ⟨rfl,rfl,rfl,trivial⟩ ?_
    obtain⟨r5,c,h⟩:=aa h
    refine bZ rfl (Jo (r:=.rep Tl r5) rfl rfl vm vl (λn hd=>.agI (pM k n r5 (by rw [hd] at c;exact c))) (λl hd=>.agS (pI k l r5 (by rw [hd] at c;exact c)))) ⟨rfl,trivial⟩ ?_
    refine bZ rfl (pi rfl rfl fM) ⟨rfl,trivial⟩ ?_
    refine fa rfl ?_
    refine aA ?_
    refine an ?_
    show JC _ _ _ _ _
    refine aj ?_
    refine aH (λz7 y6=>[(0,.rep (.mo (Pv bm) [c0,c1,c2,c3,c4,c5] au) a0),(5,.eq (Pv b1)),(15,.rep Tl r5),(16,.eq (.int .i64 (r5.length:Int))),(17,.eq (.int .i64 y6))]) (λz7 y6=>[.obj b1 78 (.rep Tr a1)]) (bS k a0 a1 r5) k () 0 (λ_=>rfl) h (SE.fin [0] ⟨rfl,rfl,rfl,rfl,rfl,trivial⟩ rfl) (λn z7 y6 h=>?_)
    unfold bS at h
    refine ak ?_
    refine ab ?_
    refine bZ rfl (bA rfl) ⟨rfl,rfl,trivial⟩ ?_
    refine aA ?_
    refine an ?_
    show JC _ _ _ _ _
    refine ak ?_
    refine iS rfl (λhb=>?_) (λhb=>?_)
    . replace h:=ec (sx hb) h
      refine bf ?_
      refine an ?_
      show JC _ _ _ _ _
      refine ak ?_
      refine aj ?_
      refine ak ?_
      refine ab ?_
      obtain⟨x8,y,h⟩:=aa h
      refine bZ rfl (aI (t:=Ti) rfl fM bV y) ⟨rfl,rfl,trivial⟩ ?_
      refine bZ rfl (am (t:=Ti) rfl bV rfl) ⟨rfl,trivial⟩ ?_
      refine uP rfl rfl ?_
      refine aA ?_
      refine an ?_
      show JC _ _ _ _ _
      refine ak ?_
      refine cP ?_
      refine fu rfl rfl rfl (aQ rfl) ⟨rfl,trivial⟩ ?_
      obtain⟨u9,u,h⟩:=aa h
      refine fu rfl rfl rfl (dM rfl Bm bV (ao u).1 (ao u).2) ⟨rfl,rfl,trivial⟩ ?_
      obtain⟨F,s,h⟩:=aa h
      refine yc 0 rfl rfl rfl rfl (mI (t:=Ti) (off:=0) (i:=x8) (N:=5) rfl bV (λ_=>rfl) rfl rfl rfl rfl s) ⟨rfl,trivial⟩ ?_
      refine fu rfl rfl rfl (aQ rfl) ⟨rfl,trivial⟩ ?_
      refine fu rfl rfl rfl (kR rfl) ⟨rfl,trivial⟩ ?_
      refine fu rfl rfl rfl (gf rfl gC) ⟨rfl,trivial⟩ ?_
      refine fu rfl rfl rfl (ii 1 false rfl xz rfl rfl) ⟨rfl,trivial⟩ ?_
      refine fu rfl rfl rfl (iZ (t:=Ti) rfl bV (hK.sub 1 1 rfl (le_of_ble_eq_true rfl)) rfl rfl) ⟨rfl,trivial⟩ ?_
      refine fu rfl rfl rfl (Gk rfl rfl) ⟨rfl,rfl,trivial⟩ ?_
      refine Bv (by kernel_rfl) dN ?_
      refine bZ rfl (iC rfl) ⟨rfl,rfl,trivial⟩ ?_
      refine aA ?_
      refine an ?_
      show JC _ _ _ _ _
      refine iS rfl (λhb=>?_) (λhb=>?_)
      . replace h:=ec (sx hb) h
        refine ak ?_
        refine ab ?_
        refine gI rfl rfl ?_
        refine uP rfl rfl ?_
        refine aA ?_
        refine an ?_
        show JC _ _ _ _ _
        refine ax ?_
        refine ba ?_
        refine aZ ?_
        refine aZ ?_
        refine ba ?_
        refine aZ ?_
        obtain rfl:=hR _ h
        exact aP () [_] 0 ⟨rfl,trivial⟩ rfl
      . replace h:=cJ (sB hb) h
        refine bf ?_
        refine aX ?_
        refine an ?_
        show JC _ _ _ _ _
        refine ab ?_
        obtain⟨x,j,h⟩:=aa h
        refine bZ rfl (bo rfl j) ⟨rfl,rfl,trivial⟩ ?_
        refine gI rfl rfl ?_
        refine aA ?_
        refine an ?_
        exact uQ ((),x) h (SE.fin [0] ⟨rfl,rfl,rfl,rfl,rfl,trivial⟩ rfl)
    . replace h:=cJ (sB hb) h
      refine eW ?_
      refine bF ?_
      refine bF ?_
      refine cO ?_
      refine an ?_
      exact uQ ((),()) h (SE.fin [] trivial rfl)
  .
    refine ak ?_
    refine ab ?_
    refine Df rfl ?_
    refine aA ?_
    refine an ?_
    show JC _ _ _ _ _
    refine ax ?_
    obtain rfl:=Option.some.inj h
    exact aP () [_] 0 ⟨rfl,trivial⟩ rfl
def cp(k:Nat)(a0:ae)(a1:(List Int))(a2:Int):Nat->((List Int)×Int)->Option (List Int)
 |0,_=>none
 |n+1,y6=>
  if y6.2 < a0.1 then((((dS k k a0 y6.2 a2).bind λc=>
  if Jf c=true then(if a0.2.2.2.1≤(O1 c) then((cN (0≤y6.2/\y6.2 < 5)).bind λ_=>
  some (List.set y6.1 (Int.toNat y6.2) (-1:Int))) else(some y6.1)) else(if¬(Jf c=true) then((cN (0≤y6.2/\y6.2 < 5)).bind λ_=>
  (aJ a1 y6.2).bind λl=>
  if 0≤l then((cN (0≤y6.2/\y6.2 < 5)).bind λ_=>
  (aJ a1 y6.2).bind λj=>
  (ck (j+1)).bind λh=>
  (cN (0≤y6.2/\y6.2 < 5)).bind λ_=>
  some (List.set y6.1 (Int.toNat y6.2) h)) else((cY k a0 a1 y6.2 a2).bind λr=>
  if 0≤r then((cN (0≤y6.2/\y6.2 < 5)).bind λ_=>
  some (List.set y6.1 (Int.toNat y6.2) 0)) else(some y6.1))) else(some y6.1))):Option ((List Int))).bind λx8=>
  (ck (y6.2+1)).bind λe=>
  cp k a0 a1 a2 n (x8,e)) else(some y6.1)
def gh(k:Nat)(a0:ae)(a1:(List Int))(a2:Int):Option (List Int):=
 ((cp k a0 a1 a2 k (a1,0)):Option ((List Int))).bind λx4=>
 some x4
theorem qG{M:Md Tryz.prog}{bm:Nat}{c0 c1 c2 c3 c4 c5:Value}(hK:Kn M bm 0 [c0,c1,c2,c3,c4,c5])(k:Nat)(a0:ae)(a1:(List Int))(a2:Int)(r:(List Int))(h:gh k a0 a1 a2=some r):
 cj M 79 [.rep (.mo (Pv bm) [c0,c1,c2,c3,c4,c5] au) a0,.rep Tr a1,I a2] [] (λ_:Unit=>(bJ [.rep Tr r],[])):=by
 unfold gh at h
 replace h:=bq h
 refine cj.of 60 Tryz.func79 rfl Tryz.ntmps79 rfl λS w0=>?_
 refine sr ?_
 refine bx λb1=>?_
 refine bg rfl rfl rfl (bI rfl ID KN) trivial λb2=>?_
 refine nt ?_
 refine sr ?_
 refine fr 1 ?_
 refine lo iV ?_
 refine bg rfl rfl rfl (bI rfl ID KN) trivial λb3=>?_
 refine aW rfl rfl (aS rfl iV rfl rfl rfl) ⟨rfl,rfl,trivial⟩ ?_
 refine nt ?_
 refine aG (Z:=Unit) (α:=(List Int)) (λz5 x4=>[(6,Pt b2),(7,Pt b3)]) (λz5 x4=>[.obj b2 78 (.rep Tr [0,0,0,0,0]),.obj b3 78 (.rep Tr x4)]) h (λK h=>?_) (λz5 x4 h=>?_)
 .
  refine sr (mq ?_);refine ja (kR rfl) ?_;refine ja (gf rfl gC) ?_;refine ja (ii 1 false rfl gp rfl rfl) ?_;refine ja (iZ (t:=Ti) rfl bV (hK.sub 0 1 rfl (le_of_ble_eq_true rfl)) rfl rfl) ?_;refine fa rfl ?_;refine nt (aj (aH (λz7 y6=>[(0,.rep (.mo (Pv bm) [c0,c1,c2,c3,c4,c5] au) a0),(2,I a2),(4,Pt b1),(6,Pt b2),(7,Pt b3),(16,I a0.1),(17,I y6.2)]) (λz7 y6=>[.obj b1 78 (.rep Tr a1),.obj b2 78 (.rep Tr [0,0,0,0,0]),.obj b3 78 (.rep Tr y6.1)]) (cp k a0 a1 a2) k () (a1,0) (λ_=>rfl) h (SE.fin [1,2,0] ⟨rfl,rfl,rfl,rfl,rfl,rfl,rfl,trivial⟩ rfl) (λn z7 y6 h=>?_)));unfold cp at h;refine sr (jb (bA rfl) ?_);refine nt (ak (ci h (λh=>?_) (λh=>?_)))
  .refine sk (aG (Z:=Unit) (α:=(List Int)) (λz9 x8=>[(0,.rep (.mo (Pv bm) [c0,c1,c2,c3,c4,c5] au) a0),(2,I a2),(4,Pt b1),(6,Pt b2),(7,Pt b3),(16,I a0.1),(17,I y6.2)]) (λz9 x8=>[.obj b1 78 (.rep Tr a1),.obj b2 78 (.rep Tr [0,0,0,0,0]),.obj b3 78 (.rep Tr x8)]) h (λK h=>?_) (λz9 x8 h=>?_))
   .refine aj (sr (mq ?_));refine aq (nt (sr ?_));iterate 3 refine mq ?_
    obtain⟨U,F,h⟩:=aa h;refine jc (aY [.tmp 20,.tmp 21,.tmp 22] rfl rfl NJ rfl (kV hK k k a0 y6.2 a2 U F)) ?_;refine nt (aj (sr (bZ rfl (BM rfl Ft (by decide)) ⟨rfl,trivial⟩ ?_)));refine xr ?_;refine xr ?_;refine nt (cv h (λh=>?_) (λh=>?_))
    .refine sr (bg rfl rfl rfl (bI rfl ER LR) trivial λTW=>?_);refine aW rfl rfl (aS rfl LC trivial rfl rfl) ⟨rfl,rfl,trivial⟩ ?_;refine nt (ak (cP ?_));refine da (aK rfl CG) ?_;refine ea 0 (ay rfl bV pH rfl) ?_;refine dm ?_;refine da (kR rfl) ?_;refine da (gf rfl gC) ?_;refine da (ii 1 false rfl Hv rfl rfl) ?_;refine da (iZ (t:=Ti) rfl bV (hK.sub 3 1 rfl (le_of_ble_eq_true rfl)) rfl rfl) ?_;refine df dN ?_;refine jb (iC rfl) ?_;refine nt (ci h (λh=>?_) (λh=>?_))
     .refine ab (mq ?_);obtain⟨zz,j,h⟩:=aa h;refine jb (dM rfl Bm bV (ao j).1 (ao j).2) ?_;refine fr 3 ?_;refine aW rfl rfl (ge (t:=Ti) (off:=0) (i:=y6.2) (N:=5) rfl bV .int rfl rfl rfl rfl (ao j).1 (ao j).2 rfl) ⟨rfl,rfl,trivial⟩ ?_;refine aA (aX (bn ?_));exact jz ((),List.set y6.1 (Int.toNat y6.2) (-1:Int)) h [2,3,0]
     .refine bf (aX (bn ?_));exact jz ((),y6.1) h [1,2,3]
    .refine sr (bZ rfl (Js rfl ME (by decide)) ⟨rfl,trivial⟩ ?_);refine xr ?_;refine xr ?_;refine nt (cw h (λh=>?_) (λh=>?_))
     .refine sr (bg rfl rfl rfl (bI rfl Lp Qp) trivial λTV=>?_);refine aW rfl rfl (aS rfl OW trivial rfl rfl) ⟨rfl,rfl,trivial⟩ ?_;refine nt (sr (mq ?_));obtain⟨qt,s,h⟩:=aa h;refine jb (dM rfl Bm bV (ao s).1 (ao s).2) ?_;obtain⟨Y,D,h⟩:=aa h;refine fr 1 ?_;refine ka (mI (t:=Ti) (off:=0) (i:=y6.2) (N:=5) rfl bV (λ_=>rfl) rfl rfl rfl rfl D) ?_;refine jb (iC rfl) ?_;refine nt (ci h (λh=>?_) (λh=>?_))
      .refine ab ?_;iterate 2 refine mq ?_
       obtain⟨u16,l,h⟩:=aa h;refine jb (dM rfl Bm bV (ao l).1 (ao l).2) ?_;obtain⟨X,y,h⟩:=aa h;refine ka (mI (t:=Ti) (off:=0) (i:=y6.2) (N:=5) rfl bV (λ_=>rfl) rfl rfl rfl rfl y) ?_;obtain⟨O,x,h⟩:=aa h;refine jb (bo rfl x) ?_;obtain⟨mw,e,h⟩:=aa h;refine jb (dM rfl Bm bV (ao e).1 (ao e).2) ?_;refine fr 3 ?_;refine aW rfl rfl (ge (t:=Ti) (off:=0) (i:=y6.2) (N:=5) rfl bV .int rfl rfl rfl rfl (ao e).1 (ao e).2 rfl) ⟨rfl,rfl,trivial⟩ ?_;refine aA (aX (bn ?_));exact jz ((),List.set y6.1 (Int.toNat y6.2) O) h [1,3,0]
      .refine sr (mq ?_);refine lo iV ?_;iterate 2 refine mq ?_
       obtain⟨Q,E,h⟩:=aa h;refine bZ rfl (aY [.tmp 50,.tmp 51,.tmp 52,.tmp 53] rfl rfl PZ rfl (jB hK k a0 a1 y6.2 a2 Q E)) ⟨rfl,rfl,rfl,rfl,trivial⟩ ?_;refine jb (iC rfl) ?_;refine nt (ci h (λh=>?_) (λh=>?_))
       .refine ab (mq ?_);obtain⟨mc,c,h⟩:=aa h;refine jb (dM rfl Bm bV (ao c).1 (ao c).2) ?_;refine fr 3 ?_;refine aW rfl rfl (ge (t:=Ti) (off:=0) (i:=y6.2) (N:=5) rfl bV .int rfl rfl rfl rfl (ao c).1 (ao c).2 rfl) ⟨rfl,rfl,trivial⟩ ?_;refine aA (aX (bn ?_));exact jz ((),List.set y6.1 (Int.toNat y6.2) 0) h [1,3,0]
       .refine bf (aX (bn ?_));exact jz ((),y6.1) h [0,2,3]
     .refine bf (aX (bn ?_));exact jz ((),y6.1) h [0,1,2]
   .refine ab ?_;obtain⟨J,u,h⟩:=aa h;refine jb (bo rfl u) ?_;refine mq (nl ?_);exact jz ((),(x8,J)) h [0,1,2]
  .refine xa ?_;exact jz ((),y6.1) h [1,2]
 .
  refine sr (fr 1 ?_);refine lo iV ?_;refine fr 1 ?_;refine aW rfl rfl (aS rfl iV rfl rfl rfl) ⟨rfl,rfl,trivial⟩ ?_;refine nt (ax ?_);obtain rfl:=Option.some.inj h;exact aP () [.rep Tr x4] 0 ⟨⟨_,_,_,_,_,rfl,(.head _),iV,(vk),rfl⟩,trivial⟩ rfl
def gy{σ:Type}(k:Nat)(a0:Int)(a3:Int)(self:Int->Int->σ->Option (Bool×σ)):Nat->(Int×σ)->Option (Except (Bool×σ) (σ))
 |0,_=>none
 |n+1,y5=>
  if y5.1 < a3 then((fK k a0 y5.1).bind λr7=>
  (ck (y5.1+1)).bind λx8=>
  (self r7 x8 y5.2).bind λr9=>
  if¬(r9.1=true) then(some (.error (false,r9.2))) else((ck (y5.1+1)).bind λc=>
  gy k a0 a3 self n (c,r9.2))) else(some (.ok y5.2))
def gW{σ:Type}(k:Nat)(Y:σ->Int->Option (σ×Bool))(a3:Int):Nat->Int->Int->σ->Option (Bool×σ)
 |0,_,_,_=>none
 |m0+1,a0,a1,s0=>
  (Y s0 a0).bind λr1=>
  if¬(r1.2=true) then(some (false,r1.1)) else(bE (α:=σ) (gy k a0 a3 (gW k Y a3 m0) k (a1,r1.1)) (some) λx3=>
  some (true,x3))
theorem rS{M:Md Tryz.prog}{σ Z:Type}(E:Z->σ->List D)(l:Nat)(Y:σ->Int->Option (σ×Bool))(k:Nat)(u:Nat)(a3:Int)(j:Nat)(c:Nat)(hY:∀z s p r,Y s p=some r->YT M l [.eq (.int .u8 p)] (E z s) (λz':Z=>(.eq (.bool r.2),E z' r.1))):
 ∀(n:Nat) (a0:Int) (a1:Int) (z0:Z) (s0:σ) (r:Bool×σ),gW k Y a3 n a0 a1 s0=some r->cj M 82 [.eq (.int .u8 a0),I a1,Pt u,Pt j,Pt c] ([.obj u 99 (.eq (.func (.yield l) #[] #[])),.obj j 3 (I a3),.obj c 98 (.eq (.func (.func 82) #[] #[(Pv u),(Pv j),(Pv c)]))]++E z0 s0) (λz:Z=>(bJ [.eq (.bool r.1)],[.obj u 99 (.eq (.func (.yield l) #[] #[])),.obj j 3 (I a3),.obj c 98 (.eq (.func (.func 82) #[] #[(Pv u),(Pv j),(Pv c)]))]++E z r.2)):=by
 intro n
 induction n with
 |zero=>intro a0 a1 z0 s0 r h;cases h
 |succ m0 ih=>
  intro a0 a1 z0 s0 r h;rw [gW] at h;replace h:=bq h;refine cj.of 27 Tryz.func82 rfl Tryz.ntmps82 rfl λS w0=>?_;refine sr (cq (nt (ak (sr ?_))));refine lo Q6 ?_;refine mq ?_;obtain⟨r1,U,h⟩:=aa h;refine fr 2 ?_;refine fr 2 ?_;refine fr 2 ?_;refine Ig [.obj u 99 (.eq (.func (.yield l) #[] #[])),.obj j 3 (I a3),.obj c 98 (.eq (.func (.func 82) #[] #[(Pv u),(Pv j),(Pv c)]))] rfl rfl rfl (Jj [.tmp 10] rfl rfl rfl (hY z0 s0 a0 r1 U)) ⟨rfl,rfl,trivial⟩ λz2=>?_;refine ja (gU rfl) ?_;refine nt (cw h (λh=>?_) (λh=>?_))
  .refine sr (cq (nt (rx ?_)));cases h;exact tC z2 [_] ⟨rfl,trivial⟩ rfl
  .refine sk (c7 (Z:=Z) (α:=σ) (λz4 x3=>[]) (λz4 x3=>[.obj u 99 (.eq (.func (.yield l) #[] #[])),.obj j 3 (I a3),.obj c 98 (.eq (.func (.func 82) #[] #[(Pv u),(Pv j),(Pv c)]))]++E z4 x3) (λe=>e=r) h (λe h=>Option.some.inj h) (λK hR h=>?_) (λz4 x3 h=>?_))
   .refine sr (mq ?_);refine aq (nt (aj ?_));refine aH (Z:=Z) (α:=Int×σ) (λz6 y5=>[(0,.eq (.int .u8 a0)),(3,Pt j),(4,Pt c),(8,I y5.1)]) (λz6 y5=>[.obj j 3 (I a3),.obj c 98 (.eq (.func (.func 82) #[] #[(Pv u),(Pv j),(Pv c)])),.obj u 99 (.eq (.func (.yield l) #[] #[]))]++E z6 y5.2) (gy k a0 a3 (gW k Y a3 m0)) k z2 (a1,r1.1) (λ_=>rfl) h (ku [.obj u 99 (.eq (.func (.yield l) #[] #[])),.obj j 3 (I a3),.obj c 98 (.eq (.func (.func 82) #[] #[(Pv u),(Pv j),(Pv c)]))] (E z2 r1.1) [1,2,0] ⟨rfl,rfl,rfl,rfl,trivial⟩ rfl) (λn z6 y5 h=>?_);unfold gy at h;refine ak (sr (mq ?_));refine lo bV ?_;refine jb (bA rfl) ?_;refine nt (ci h (λh=>?_) (λh=>?_))
    .refine sk (ak (aj (ak (cP ?_))));refine ea 1 (ay rfl MF pH rfl) ?_;refine dm ?_;refine dm ?_;obtain⟨r7,Q,h⟩:=aa h;refine db (av [.tmp 20,.tmp 21] rfl rfl NN rfl (jU k a0 y5.1 r7 Q)) ?_;refine dm ?_;obtain⟨x8,J,h⟩:=aa h;refine db (bo rfl J) ?_;refine df dN ?_;obtain⟨r9,O,h⟩:=aa h;refine fr 1 ?_;refine fr 1 ?_;refine fr 2 ?_;refine zM rfl rfl rfl (qB (fs:=[]) (cs:=[(Pv u),(Pv j),(Pv c)]) (ags:=[.eq (.int .u8 r7),I x8]) [.tmp 22,.tmp 24] rfl rfl P0 rfl (ih r7 x8 z6 y5.2 r9 O)) ⟨rfl,rfl,rfl,trivial⟩ λx=>?_;refine ja (gU rfl) ?_;refine nt (cw h (λh=>?_) (λh=>?_))
     .refine sr (cq (nt (ax (br (ba (aZ ?_))))));obtain rfl:=hR _ h;exact tC x [_] ⟨rfl,trivial⟩ rfl
     .refine bf (aX (tn (ab (mq ?_))));obtain⟨F,y,h⟩:=aa h;refine jb (bo rfl y) ?_;refine aq (nl ?_);exact uQ (x,(F,r9.2)) h (ku [.obj u 99 (.eq (.func (.yield l) #[] #[])),.obj j 3 (I a3),.obj c 98 (.eq (.func (.func 82) #[] #[(Pv u),(Pv j),(Pv c)]))] (E x r9.2) [1,2,0] ⟨rfl,rfl,rfl,rfl,trivial⟩ rfl)
    .refine xa ?_;exact uQ (z6,y5.2) h (ku [.obj j 3 (I a3),.obj c 98 (.eq (.func (.func 82) #[] #[(Pv u),(Pv j),(Pv c)])),.obj u 99 (.eq (.func (.yield l) #[] #[]))] (E z6 y5.2) [2,0,1] trivial rfl)
   .refine sr (cq (nt (ax ?_)));cases h;exact tC z4 [_] ⟨rfl,trivial⟩ rfl
def lG{σ:Type}(k:Nat)(Y:σ->Int->Option (σ×Bool))(a1:Int)(s0:σ):Option (σ):=
 (gW k Y a1 k 0 0 s0).bind λr3=>
 some r3.2
theorem nS{M:Md Tryz.prog}{σ Z:Type}(E:Z->σ->List D)(l:Nat)(Y:σ->Int->Option (σ×Bool))(k:Nat)(a1:Int)(c:Nat)(hY:∀z s p r,Y s p=some r->YT M l [.eq (.int .u8 p)] (E z s) (λz':Z=>(.eq (.bool r.2),E z' r.1))):
 ∀(z0:Z) (s0:σ) (r:σ),lG k Y a1 s0=some r->cj M 81 [.eq (.func (.yield l) #[] #[]),Pt c] ([.obj c 3 (I a1)]++E z0 s0) (λz:Z=>(bJ [],[.obj c 3 (I a1)]++E z r)):=by
 intro z0 s0 r h
 unfold lG at h
 replace h:=bq h
 refine cj.of 7 Tryz.func81 rfl Tryz.ntmps81 rfl λS w0=>?_
 refine sr ?_
 refine bx λb1=>?_
 refine nt ?_
 refine sr ?_
 refine bg rfl rfl rfl (bI rfl Q0 SL) trivial λb2=>?_
 refine nt ?_
 refine sr ?_
 refine jc (rI [] [.tmp 2,.tmp 1,.tmp 3] [] [(Pv b1),(Pv c),(Pv b2)] rfl rfl rfl) ?_
 refine aW rfl rfl (aS rfl MF rfl rfl rfl) ⟨rfl,rfl,trivial⟩ ?_
 refine nt ?_
 refine ab ?_
 refine lo MF ?_
 obtain⟨r3,e,h⟩:=aa h
 have j:=rS E l Y k b1 a1 c b2 hY k 0 0 z0 s0 r3 e
 refine fr 2 ?_
 refine fr 2 ?_
 refine zM rfl rfl rfl (qB (fs:=[]) (cs:=[(Pv b1),(Pv c),(Pv b2)]) (ags:=[.eq (.int .u8 0),I 0]) [.const (.int .u8 (0)),.const (.int .i64 (0))] rfl rfl P0 rfl j) ⟨rfl,rfl,rfl,trivial⟩ λz4=>?_
 refine aA ?_
 refine jM ?_
 refine bX (ku (Γ':=[]) [.obj b1 99 (.eq (.func (.yield l) #[] #[])),.obj c 3 (I a1),.obj b2 98 (.eq (.func (.func 82) #[] #[(Pv b1),(Pv c),(Pv b2)]))] (E z4 r3.2) [1] trivial rfl) ?_
 cases h
 exact tC z4 [] trivial rfl
theorem qI(a0:Int):dF Tryz.prog 52 [I a0] [] (λz:Nat=>(bJ [.eq (.func (.func 81) #[] #[(Pv z)])],[.obj z 3 (I a0)])):=by
 refine dF.of 4 Tryz.func52 rfl Tryz.ntmps52 rfl λS w0=>?_;refine sr (bx λz=>?_);refine cq (nt (sr ?_));refine ja (rI [] [.tmp 1] [] [(Pv z)] rfl rfl rfl) ?_;refine aq (nt (ax ?_));exact aP z [_] 1 ⟨rfl,trivial⟩ rfl
def ia(k:Nat)(a0:Int):Nat->((List Int)×Int)->Option (List Int)
 |0,_=>none
 |n+1,y3=>
  if y3.2 < 5 then((((eK k a0 y3.2).bind λr7=>
  if r7=true then((cN (cu (length y3.1+length [y3.2]))).bind λ_=>
  some (y3.1++[y3.2])) else(some y3.1)):Option ((List Int))).bind λx5=>
  (ck (y3.2+1)).bind λc=>
  ia k a0 n (x5,c)) else(some y3.1)
def iF(k:Nat)(a0:Int):Option (List Int):=
 ((ia k a0 k (([]:(List Int)),0)):Option ((List Int))).bind λx1=>
 some x1
theorem jV(k:Nat)(a0:Int)(r:(List Int))(h:iF k a0=some r):
 dF Tryz.prog 39 [.eq (.int .u8 a0)] [] (λ_:Unit=>(bJ [.rep Tl r],[])):=by
 unfold iF at h
 replace h:=bq h
 refine dF.of 17 Tryz.func39 rfl Tryz.ntmps39 rfl λS w0=>?_
 refine sr ?_
 refine cq ?_
 refine nt ?_
 refine sr ?_
 refine cq ?_
 refine nt ?_
 refine aG (Z:=Value) (α:=(List Int)) (λz2 x1=>[(3,.eq z2)]) (λz2 x1=>[.sl z2 3 Ti x1]) h (λK h=>?_) (λz2 x1 h=>?_)
 .
  refine sr (fa rfl ?_);refine nt (aj (jN (SE.nil 3 Ti) ?_));refine aH (λz4 y3=>[(0,.eq (.int .u8 a0)),(3,.eq z4),(5,I y3.2)]) (λz4 y3=>[.sl z4 3 Ti y3.1]) (ia k a0) k (.slice none 0 0) (([]:(List Int)),0) (λ_=>rfl) h (SE.fin [0] ⟨rfl,rfl,rfl,trivial⟩ rfl) (λn z4 y3 h=>?_);unfold ia at h;refine sr (jb (bA rfl) ?_);refine nt (ak (ci h (λh=>?_) (λh=>?_)))
  .refine sk (aG (Z:=Value) (α:=(List Int)) (λz6 x5=>[(0,.eq (.int .u8 a0)),(3,.eq z6),(5,I y3.2)]) (λz6 x5=>[.sl z6 3 Ti x5]) h (λK h=>?_) (λz6 x5 h=>?_))
   .refine aj (sr (mq ?_));refine aq (nt (sr ?_));iterate 2 refine mq ?_
    obtain⟨r7,l,h⟩:=aa h;refine jb (av [.tmp 8,.tmp 9] rfl rfl HA rfl (gg k a0 y3.2 r7 l)) ?_;refine nt (cv h (λh=>?_) (λh=>?_))
    .refine ab ?_;iterate 2 refine mq ?_
     refine ja (bi (t:=Ti) [(.tmp 12,_)] [y3.2] rfl rfl dy (.cons rfl .int .nil) rfl rfl) ?_;obtain⟨u8,j,h⟩:=aa h;refine ek rfl rfl rfl (cH rfl rfl dy (ao j)) ⟨rfl,rfl,trivial⟩ λv9=>?_;refine aq (aA (bn ?_));exact jz (v9,y3.1++[y3.2]) h [0]
    .refine bf (bn ?_);exact jz (z4,y3.1) h [0]
   .refine ab ?_;obtain⟨e,c,h⟩:=aa h;refine jb (bo rfl c) ?_;refine mq (nl ?_);exact jz (z6,(x5,e)) h [0]
  .refine xa ?_;exact jz (z4,y3.1) h [0]
 .
  refine sr (mq ?_);refine aq (nt (ax ?_));refine bX (iR [2,3,16] ⟨rfl,rfl,rfl,trivial⟩) ?_;cases h;exact ra
def gQ(k:Nat)(a0:List Int):Option (List Int):=
 (cN (cu (length a0))).bind λ_=>some a0
theorem rz(k:Nat)(a0:List Int)(r:List Int)(h:gQ k a0=some r):
 dF Tryz.prog 41 [.rep Tl a0] [] (λz:Value=>(bJ [.eq z],[.sl z 3 Ti r])):=by
 unfold gQ at h
 replace h:=bq h
 refine dF.of 8 Tryz.func41 rfl Tryz.ntmps41 rfl λS w0=>?_
 obtain⟨u1,c,h⟩:=aa h
 cases h
 refine sr ?_
 refine cq ?_
 refine nt ?_
 refine ak ?_
 refine sr ?_
 refine mq ?_
 refine aL (Δ:=[]) (F:=_) (λ_ _ _=>ag rfl _) rfl rfl (Jq rfl fM) ⟨rfl,rfl,trivial⟩ λb=>?_
 refine nt ?_
 refine iS rfl (λhb=>?_) (λhb=>?_)
 .
  refine sr (cq (nt (rx ?_)));obtain rfl:=b.2 hb;refine bX (SE.nil 3 Ti) ?_;exact aP (.slice none 0 0) [.eq (.slice none 0 0)] 1 ⟨rfl,trivial⟩ rfl
 .
  refine sk (sr (bg rfl rfl rfl (mJ (t:=Ti) [] [] rfl rfl dy .nil rfl rfl) trivial λv1=>?_));refine mq ?_;refine ek rfl rfl rfl (cH rfl rfl dy (by simpa using ao c)) ⟨rfl,rfl,trivial⟩ λv2=>?_;refine aq (nt (ax ?_));exact aP v2 [.eq v2] 1 ⟨rfl,trivial⟩ rfl
def eS(k:Nat)(a0:ae)(a1:(List (List Int))):Nat->Int->Option (Except Bool Unit)
 |0,_=>none
 |n+1,y5=>
  if y5 < (a1.length:Int) then((aJ a1 y5).bind λx7=>
  if¬((x7.length:Int)=a0.1) then(some (.error false)) else((ck (y5+1)).bind λx8=>
  eS k a0 a1 n x8)) else(some (.ok ()))
def mi(k:Nat)(a0:ae)(a1:(List (List Int))):Option Bool:=
 (ck ((a0.2.2.2.2.1.length:Int)+1)).bind λx2=>
 if¬((a1.length:Int)=x2) then(some false) else(bE (α:=Unit) (eS k a0 a1 k 0) (some) λ_=>
 some true)
theorem xo(k:Nat)(a0:ae)(a1:(List (List Int)))(r:Bool)(h:mi k a0 a1=some r):
 dF Tryz.prog 14 [.rep au a0,.rep (.slice Tl) a1] [] (λ_:Unit=>(bJ [.eq (.bool r)],[])):=by
 unfold mi at h
 replace h:=bq h
 refine dF.of 27 Tryz.func14 rfl Tryz.ntmps14 rfl λS w0=>?_
 refine sr ?_
 refine bx λb1=>?_
 refine cq ?_
 refine nt ?_
 refine ak ?_
 refine sr ?_
 refine mq ?_
 refine ol qY ?_
 refine fl dU ?_
 refine lo kh ?_
 refine ol yi ?_
 obtain⟨x2,l,h⟩:=aa h
 refine jb (bo rfl l) ?_
 refine jb (eZ rfl) ?_
 refine nt ?_
 refine cn h (λh=>?_) (λh=>?_)
 .
  refine sr (cq (nt (rx ?_)));cases h;exact ra
 .
  refine sk (c7 (Z:=Unit) (α:=Unit) (λz4 x3=>[]) (λz4 x3=>[]) (λe=>e=r) h (λe h=>Option.some.inj h) (λK hR h=>?_) (λz4 x3 h=>?_))
  .refine sr (cq (nt (aj ?_)));refine aH (λz6 y5=>[(1,.rep (.slice Tl) a1),(2,Pt b1),(5,I y5)]) (λz6 y5=>[.obj b1 26 (.rep au a0)]) (eS k a0 a1) k () 0 (λ_=>rfl) h (SE.fin [0] ⟨rfl,rfl,rfl,trivial⟩ rfl) (λn z6 y5 h=>?_);unfold eS at h;refine ak (sr ?_);iterate 2 refine mq ?_
   refine ol qY ?_;refine jb (bA rfl) ?_;refine nt (ci h (λh=>?_) (λh=>?_))
   .refine sk (ak (aj (ak (cP ?_))));refine dm ?_;refine dm ?_;obtain⟨x7,j,h⟩:=aa h;refine db (aI (t:=Tl) rfl qY gJ j) ?_;refine da (am (t:=Tl) rfl gJ rfl) ?_;refine da (pi rfl rfl fM) ?_;refine da (aK rfl gp) ?_;refine ea 0 (ay rfl bV pH rfl) ?_;refine df dN ?_;refine jb (eZ rfl) ?_;refine nt (cn h (λh=>?_) (λh=>?_))
    .refine sr (cq (nt (ax (br (ba (aZ ?_))))));obtain rfl:=hR _ h;exact ra
    .refine bf (aX (tn (ab (mq ?_))));obtain⟨x8,c,h⟩:=aa h;refine jb (bo rfl c) ?_;refine aq (nl ?_);exact jz ((),x8) h [0]
   .refine xa ?_;exact jz ((),()) h []
  .refine sr (cq (nt (ax ?_)));cases h;exact ra
def iw(k:Nat)(a0:(List Int)):Nat->(Int×Int)->Option Int
 |0,_=>none
 |n+1,y4=>
  if y4.2 < (a0.length:Int) then((aJ a0 y4.2).bind λx6=>
  (ck (y4.2+1)).bind λx7=>
  iw k a0 n (Ha y4.1 x6,x7)) else(some y4.1)
def lA(k:Nat)(a0:(List Int)):Option Int:=
 if(a0.length:Int) < 1 then(none) else((aJ a0 0).bind λx1=>
 ((iw k a0 k (x1,1)):Option (Int)).bind λx2=>
 some x2)
theorem nD(k:Nat)(a0:(List Int))(r:Int)(h:lA k a0=some r):
 dF Tryz.prog 45 [.rep Tl a0] [] (λ_:Unit=>(bJ [I r],[])):=by
 unfold lA at h
 replace h:=bq h
 refine dF.of 25 Tryz.func45 rfl Tryz.ntmps45 rfl λS w0=>?_
 refine sr ?_
 refine cq ?_
 refine nt ?_
 refine ak ?_
 refine sr ?_
 refine mq ?_
 refine ol fM ?_
 refine jb (bA rfl) ?_
 refine nt ?_
 refine ci h (λh=>?_) (λh=>?_)
 .
  cases h
 .
  refine sk (sr (mq ?_));obtain⟨x1,j,h⟩:=aa h;refine jb (aI (t:=Ti) rfl fM bV j) ?_;refine ja (am (t:=Ti) rfl bV rfl) ?_;refine aq (nt ?_);refine aG (Z:=Unit) (α:=Int) (λz3 x2=>[(3,I x2)]) (λz3 x2=>[]) h (λK h=>?_) (λz3 x2 h=>?_)
  .refine sr (cq (nt (aj ?_)));refine aH (λz5 y4=>[(0,.rep Tl a0),(3,I y4.1),(4,I y4.2)]) (λz5 y4=>[]) (iw k a0) k () (x1,1) (λ_=>rfl) h (SE.fin [] ⟨rfl,rfl,rfl,trivial⟩ rfl) (λn z5 y4 h=>?_);unfold iw at h;refine ak (sr ?_);iterate 2 refine mq ?_
   refine ol fM ?_;refine jb (bA rfl) ?_;refine nt (ci h (λh=>?_) (λh=>?_))
   .refine sk (ak (aj (ab ?_)));iterate 3 refine mq ?_
    obtain⟨x6,e,h⟩:=aa h;refine jb (aI (t:=Ti) rfl fM bV e) ?_;refine ja (am (t:=Ti) rfl bV rfl) ?_;refine jb (O9 rfl rfl) ?_;refine aq (aA (aX (tn (ab ?_))));refine mq ?_;obtain⟨x7,c,h⟩:=aa h;refine jb (bo rfl c) ?_;refine aq (nl ?_);exact jz ((),(Ha y4.1 x6,x7)) h []
   .refine xa ?_;exact jz ((),y4.1) h []
  .refine sr (mq ?_);refine aq (nt (ax ?_));cases h;exact ra
def ix(k:Nat)(a0:(List Int)):Nat->(Int×Int)->Option Int
 |0,_=>none
 |n+1,y4=>
  if y4.2 < (a0.length:Int) then((aJ a0 y4.2).bind λx6=>
  (ck (y4.2+1)).bind λx7=>
  ix k a0 n (sb y4.1 x6,x7)) else(some y4.1)
def nE(k:Nat)(a0:(List Int)):Option Int:=
 if(a0.length:Int) < 1 then(none) else((aJ a0 0).bind λx1=>
 ((ix k a0 k (x1,1)):Option (Int)).bind λx2=>
 some x2)
theorem tR(k:Nat)(a0:(List Int))(r:Int)(h:nE k a0=some r):
 dF Tryz.prog 46 [.rep Tl a0] [] (λ_:Unit=>(bJ [I r],[])):=by
 unfold nE at h
 replace h:=bq h
 refine dF.of 25 Tryz.func46 rfl Tryz.ntmps46 rfl λS w0=>?_
 refine sr ?_
 refine cq ?_
 refine nt ?_
 refine ak ?_
 refine sr ?_
 refine mq ?_
 refine ol fM ?_
 refine jb (bA rfl) ?_
 refine nt ?_
 refine ci h (λh=>?_) (λh=>?_)
 .
  cases h
 .
  refine sk (sr (mq ?_));obtain⟨x1,j,h⟩:=aa h;refine jb (aI (t:=Ti) rfl fM bV j) ?_;refine ja (am (t:=Ti) rfl bV rfl) ?_;refine aq (nt ?_);refine aG (Z:=Unit) (α:=Int) (λz3 x2=>[(3,I x2)]) (λz3 x2=>[]) h (λK h=>?_) (λz3 x2 h=>?_)
  .refine sr (cq (nt (aj ?_)));refine aH (λz5 y4=>[(0,.rep Tl a0),(3,I y4.1),(4,I y4.2)]) (λz5 y4=>[]) (ix k a0) k () (x1,1) (λ_=>rfl) h (SE.fin [] ⟨rfl,rfl,rfl,trivial⟩ rfl) (λn z5 y4 h=>?_);unfold ix at h;refine ak (sr ?_);iterate 2 refine mq ?_
   refine ol fM ?_;refine jb (bA rfl) ?_;refine nt (ci h (λh=>?_) (λh=>?_))
   .refine sk (ak (aj (ab ?_)));iterate 3 refine mq ?_
    obtain⟨x6,e,h⟩:=aa h;refine jb (aI (t:=Ti) rfl fM bV e) ?_;refine ja (am (t:=Ti) rfl bV rfl) ?_;refine jb (Gk rfl rfl) ?_;refine aq (aA (aX (tn (ab ?_))));refine mq ?_;obtain⟨x7,c,h⟩:=aa h;refine jb (bo rfl c) ?_;refine aq (nl ?_);exact jz ((),(sb y4.1 x6,x7)) h []
   .refine xa ?_;exact jz ((),y4.1) h []
  .refine sr (mq ?_);refine aq (nt (ax ?_));cases h;exact ra
def kl(k:Nat)(a0:Int):Option Int:=
 (iF k a0).bind λr1=>
 some (r1.length:Int)
theorem nf(k:Nat)(a0:Int)(r:Int)(h:kl k a0=some r):
 dF Tryz.prog 58 [.eq (.int .u8 a0)] [] (λ_:Unit=>(bJ [I r],[])):=by
 unfold kl at h
 replace h:=bq h
 refine dF.of 6 Tryz.func58 rfl Tryz.ntmps58 rfl λS w0=>?_
 refine sr ?_
 refine cq ?_
 refine nt ?_
 refine sr ?_
 refine mq ?_
 obtain⟨r1,c,h⟩:=aa h
 have e:=jV k a0 r1 c
 refine ja (av [.tmp 3] rfl rfl NP rfl e) ?_
 refine ol fM ?_
 refine aq ?_
 refine nt ?_
 refine ax ?_
 cases h
 exact ra
def mP(k:Nat)(a0:Int)(a1:Int):Option Int:=
 (kl k a0).bind λr1=>
 (kl k a1).bind λr2=>
 (ck (r1 - r2)).bind λx3=>
 some x3
theorem s7(k:Nat)(a0:Int)(a1:Int)(c:Nat)(r:Int)(h:mP k a0 a1=some r):
 dF Tryz.prog 85 [.eq (.int .u8 a0),.eq (.int .u8 a1),Pt c] [.obj c 102 (.eq (.func (.func 58) #[] #[]))] (λ_:Unit=>(bJ [I r],[.obj c 102 (.eq (.func (.func 58) #[] #[]))])):=by
 unfold mP at h
 replace h:=bq h
 refine dF.of 13 Tryz.func85 rfl Tryz.ntmps85 rfl λS w0=>?_
 refine sr ?_
 refine cq ?_
 refine nt ?_
 refine ak ?_
 refine cP ?_
 refine ea 0 (ay rfl LE pH rfl) ?_
 refine dm ?_
 obtain⟨r1,l,h⟩:=aa h
 have s:=nf k a0 r1 l
 refine db (tp (fs:=[]) (cs:=[]) (ags:=[.eq (.int .u8 a0)]) [.tmp 7] rfl rfl P3 rfl s) ?_
 refine ea 0 (ay rfl LE pH rfl) ?_
 refine dm ?_
 refine df dN ?_
 obtain⟨r2,j,h⟩:=aa h
 have n:=nf k a1 r2 j
 refine jb (tp (fs:=[]) (cs:=[]) (ags:=[.eq (.int .u8 a1)]) [.tmp 10] rfl rfl P3 rfl n) ?_
 obtain⟨x3,e,h⟩:=aa h
 refine jb (dY rfl e) ?_
 refine aq ?_
 refine nt ?_
 refine ax ?_
 cases h
 exact aP () [_] 1 ⟨rfl,trivial⟩ rfl
def fG(k:Nat)(a0:(List Int)):Nat->(Int×Int)->Option Int
 |0,_=>none
 |n+1,y4=>
  if y4.2 < (a0.length:Int) then((((aJ a0 y4.2).bind λx8=>
  (mP k x8 y4.1).bind λr9=>
  if r9 < 0 then((aJ a0 y4.2).bind λe=>
  some e) else(some y4.1)):Option (Int)).bind λx6=>
  (ck (y4.2+1)).bind λc=>
  fG k a0 n (x6,c)) else(some y4.1)
def jQ(k:Nat)(a0:(List Int)):Option Int:=
 if(a0.length:Int) < 1 then(none) else((aJ a0 0).bind λx1=>
 ((fG k a0 k (x1,1)):Option (Int)).bind λx2=>
 some x2)
theorem pA(k:Nat)(a0:(List Int))(c_a1_0:Nat)(r:Int)(h:jQ k a0=some r):
 dF Tryz.prog 84 [.rep (.slice (.int .u8)) a0,.eq (.func (.func 85) #[] #[(Pv c_a1_0)])] [.obj c_a1_0 102 (.eq (.func (.func 58) #[] #[]))] (λ_:Unit=>(bJ [.eq (.int .u8 r)],[.obj c_a1_0 102 (.eq (.func (.func 58) #[] #[]))])):=by
 unfold jQ at h
 replace h:=bq h
 refine dF.of 33 Tryz.func84 rfl Tryz.ntmps84 rfl λS w0=>?_
 refine sr ?_
 refine cq ?_
 refine nt ?_
 refine ak ?_
 refine sr ?_
 refine mq ?_
 refine ol zZ ?_
 refine jb (bA rfl) ?_
 refine nt ?_
 refine ci h (λh=>?_) (λh=>?_)
 .
  cases h
 .
  refine sk (sr (mq ?_));obtain⟨x1,u,h⟩:=aa h;refine jb (aI (t:=(.int .u8)) rfl zZ pw u) ?_;refine ja (am (t:=(.int .u8)) rfl pw rfl) ?_;refine aq (nt ?_);refine aG (Z:=Unit) (α:=Int) (λz3 x2=>[(5,.eq (.int .u8 x2))]) (λz3 x2=>[.obj c_a1_0 102 (.eq (.func (.func 58) #[] #[]))]) h (λK h=>?_) (λz3 x2 h=>?_)
  .refine sr (cq (nt (aj ?_)));refine aH (λz5 y4=>[(0,.rep (.slice (.int .u8)) a0),(1,.eq (.func (.func 85) #[] #[(Pv c_a1_0)])),(5,.eq (.int .u8 y4.1)),(6,I y4.2)]) (λz5 y4=>[.obj c_a1_0 102 (.eq (.func (.func 58) #[] #[]))]) (fG k a0) k () (x1,1) (λ_=>rfl) h (SE.fin [0] ⟨rfl,rfl,rfl,rfl,trivial⟩ rfl) (λn z5 y4 h=>?_);unfold fG at h;refine ak (sr ?_);iterate 2 refine mq ?_
   refine ol zZ ?_;refine jb (bA rfl) ?_;refine nt (ci h (λh=>?_) (λh=>?_))
   .refine sk (aG (Z:=Unit) (α:=Int) (λz7 x6=>[(0,.rep (.slice (.int .u8)) a0),(1,.eq (.func (.func 85) #[] #[(Pv c_a1_0)])),(5,.eq (.int .u8 x6)),(6,I y4.2)]) (λz7 x6=>[.obj c_a1_0 102 (.eq (.func (.func 58) #[] #[]))]) h (λK h=>?_) (λz7 x6 h=>?_))
    .refine aj (sr ?_);iterate 3 refine mq ?_
     obtain⟨x8,s,h⟩:=aa h;refine jb (aI (t:=(.int .u8)) rfl zZ pw s) ?_;refine ja (am (t:=(.int .u8)) rfl pw rfl) ?_;refine mq ?_;obtain⟨r9,x,h⟩:=aa h;refine kc (tp (fs:=[]) (cs:=[(Pv c_a1_0)]) (ags:=[.eq (.int .u8 x8),.eq (.int .u8 y4.1)]) [.tmp 24,.tmp 25] rfl rfl RL rfl (s7 k x8 y4.1 c_a1_0 r9 x)) ?_;refine jb (bA rfl) ?_;refine nt (ci h (λh=>?_) (λh=>?_))
     .refine ab ?_;iterate 2 refine mq ?_
      obtain⟨l,e,h⟩:=aa h;refine jb (aI (t:=(.int .u8)) rfl zZ pw e) ?_;refine ja (am (t:=(.int .u8)) rfl pw rfl) ?_;refine aq (aA (bn ?_));exact jz ((),l) h [0]
     .refine bf (bn ?_);exact jz ((),y4.1) h [0]
    .refine ab (mq ?_);obtain⟨j,c,h⟩:=aa h;refine jb (bo rfl c) ?_;refine aq (nl ?_);exact jz ((),(x6,j)) h [0]
   .refine xa ?_;exact jz ((),y4.1) h [0]
  .refine sr (mq ?_);refine aq (nt (ax ?_));cases h;exact aP () [_] 1 ⟨rfl,trivial⟩ rfl
def pL(k:Nat)(a0:(List Int)):Option Int:=
 (jQ k a0).bind λr2=>
 some r2
theorem vo(k:Nat)(a0:(List Int))(r:Int)(h:pL k a0=some r):
 dF Tryz.prog 57 [.rep (.slice (.int .u8)) a0,.eq (.func (.func 58) #[] #[])] [] (λ_:Unit=>(bJ [.eq (.int .u8 r)],[])):=by
 unfold pL at h
 replace h:=bq h
 refine dF.of 8 Tryz.func57 rfl Tryz.ntmps57 rfl λS w0=>?_
 refine sr ?_
 refine bx λb1=>?_
 refine cq ?_
 refine nt ?_
 refine sr ?_
 refine mq ?_
 refine ja (rI [] [.tmp 3] [] [(Pv b1)] rfl rfl rfl) ?_
 obtain⟨r2,c,h⟩:=aa h
 have e:=pA k a0 b1 r2 c
 refine kb (av [.tmp 5,.tmp 6] rfl rfl RN rfl e) ?_
 refine aq ?_
 refine nt ?_
 refine ax ?_
 cases h
 exact ra
def ie(k:Nat)(a0:(List Int))(a1:(List Int)):Nat->Int->Option (Except Bool Unit)
 |0,_=>none
 |n+1,y3=>
  if y3 < (a0.length:Int) then((aJ a0 y3).bind λx5=>
  (aJ a1 y3).bind λx6=>
  if¬(x5=x6) then(some (.error false)) else((ck (y3+1)).bind λx7=>
  ie k a0 a1 n x7)) else(some (.ok ()))
def iM(k:Nat)(a0:(List Int))(a1:(List Int)):Option Bool:=
 if¬((a0.length:Int)=(a1.length:Int)) then(some false) else(bE (α:=Unit) (ie k a0 a1 k 0) (some) λ_=>
 some true)
theorem jX(k:Nat)(a0:(List Int))(a1:(List Int))(r:Bool)(h:iM k a0 a1=some r):
 dF Tryz.prog 26 [.rep Tl a0,.rep Tl a1] [] (λ_:Unit=>(bJ [.eq (.bool r)],[])):=by
 unfold iM at h
 replace h:=bq h
 refine dF.of 26 Tryz.func26 rfl Tryz.ntmps26 rfl λS w0=>?_
 refine sr ?_
 refine cq ?_
 refine nt ?_
 refine ak ?_
 refine sr ?_
 refine mq ?_
 refine ol fM ?_
 refine mq ?_
 refine ol fM ?_
 refine jb (eZ rfl) ?_
 refine nt ?_
 refine cn h (λh=>?_) (λh=>?_)
 .
  refine sr (cq (nt (rx ?_)));cases h;exact ra
 .
  refine sk (c7 (Z:=Unit) (α:=Unit) (λz2 x1=>[]) (λz2 x1=>[]) (λe=>e=r) h (λe h=>Option.some.inj h) (λK hR h=>?_) (λz2 x1 h=>?_))
  .refine sr (cq (nt (aj ?_)));refine aH (λz4 y3=>[(0,.rep Tl a0),(1,.rep Tl a1),(5,I y3)]) (λz4 y3=>[]) (ie k a0 a1) k () 0 (λ_=>rfl) h (SE.fin [] ⟨rfl,rfl,rfl,trivial⟩ rfl) (λn z4 y3 h=>?_);unfold ie at h;refine ak (sr ?_);iterate 2 refine mq ?_
   refine ol fM ?_;refine jb (bA rfl) ?_;refine nt (ci h (λh=>?_) (λh=>?_))
   .refine sk (ak (aj (ak (cP ?_))));refine dm ?_;refine dm ?_;obtain⟨x5,l,h⟩:=aa h;refine db (aI (t:=Ti) rfl fM bV l) ?_;refine da (am (t:=Ti) rfl bV rfl) ?_;refine dm ?_;refine dm ?_;obtain⟨x6,j,h⟩:=aa h;refine db (aI (t:=Ti) rfl fM bV j) ?_;refine da (am (t:=Ti) rfl bV rfl) ?_;refine df dN ?_;refine jb (eZ rfl) ?_;refine nt (cn h (λh=>?_) (λh=>?_))
    .refine sr (cq (nt (ax (br (ba (aZ ?_))))));obtain rfl:=hR _ h;exact ra
    .refine bf (aX (tn (ab (mq ?_))));obtain⟨x7,c,h⟩:=aa h;refine jb (bo rfl c) ?_;refine aq (nl ?_);exact jz ((),x7) h []
   .refine xa ?_;exact jz ((),()) h []
  .refine sr (cq (nt (ax ?_)));cases h;exact ra
def cL(k:Nat):Nat->((List Int)×Int×Int)->Option (List Int)
 |0,_=>none
 |n+1,y2=>
  if y2.2.1 < y2.2.2 then((aJ y2.1 y2.2.2).bind λx4=>
  (aJ y2.1 y2.2.1).bind λx5=>
  (aJ y2.1 y2.2.1).bind λx6=>
  (aJ (List.set y2.1 (Int.toNat y2.2.1) x4) y2.2.2).bind λx7=>
  (ck (y2.2.1+1)).bind λx8=>
  (ck (y2.2.2 - 1)).bind λx9=>
  cL k n (List.set (List.set y2.1 (Int.toNat y2.2.1) x4) (Int.toNat y2.2.2) x5,x8,x9)) else(some y2.1)
def fP(k:Nat)(a0:(List Int)):Option (List Int):=
 (ck ((a0.length:Int) - 1)).bind λx1=>
 cL k k (a0,0,x1)
theorem pz(k:Nat)(a0:(List Int))(c:Value)(r:(List Int))(h:fP k a0=some r):
 dF Tryz.prog 67 [.eq c] [.sl c 3 Ti a0] (λ_:Unit=>(bJ [],[.sl c 3 Ti r])):=by
 unfold fP at h
 replace h:=bq h
 refine dF.of 28 Tryz.func67 rfl Tryz.ntmps67 rfl λS w0=>?_
 refine sr ?_
 refine mq ?_
 refine ka (ma rfl rfl fM) ?_
 obtain⟨x1,mw,h⟩:=aa h
 refine jb (dY rfl mw) ?_
 refine cq ?_
 refine aq ?_
 refine nt ?_
 refine aj ?_
 refine aH (λz3 y2=>[(0,.eq c),(2,I y2.2.1),(3,I y2.2.2)]) (λz3 y2=>[.sl c 3 Ti y2.1]) (cL k) k () (a0,0,x1) (λ_=>rfl) h (SE.fin [0] ⟨rfl,rfl,rfl,trivial⟩ rfl) (λn z3 y2 h=>?_)
 unfold cL at h
 refine ak ?_
 refine sr ?_
 iterate 2 refine mq ?_
 refine jb (bA rfl) ?_
 refine nt ?_
 refine ci h (λh=>?_) (λh=>?_)
 .
  refine sk (ak (aj (rj ?_)));refine cF rfl rfl rfl (aQ rfl) ⟨rfl,trivial⟩ ?_;refine cF rfl rfl rfl (aQ rfl) ⟨rfl,trivial⟩ ?_;refine cF rfl rfl rfl (aQ rfl) ⟨rfl,trivial⟩ ?_;refine cF rfl rfl rfl (aQ rfl) ⟨rfl,trivial⟩ ?_;refine cF rfl rfl rfl (aQ rfl) ⟨rfl,trivial⟩ ?_;refine cF rfl rfl rfl (aQ rfl) ⟨rfl,trivial⟩ ?_;obtain⟨x4,D,h⟩:=aa h;refine iT 0 rfl rfl rfl rfl (cG (t:=Ti) rfl fM bV D) ⟨rfl,rfl,trivial⟩ ?_;refine iT 0 rfl rfl rfl rfl (gu (i:=Int.toNat y2.2.2) (off:=0) rfl bV (λ_=>rfl) rfl (dD D).2.2 rfl) ⟨rfl,trivial⟩ ?_;refine cF rfl rfl rfl (aQ rfl) ⟨rfl,trivial⟩ ?_;refine cF rfl rfl rfl (aQ rfl) ⟨rfl,trivial⟩ ?_;obtain⟨x5,y,h⟩:=aa h;refine iT 0 rfl rfl rfl rfl (cG (t:=Ti) rfl fM bV y) ⟨rfl,rfl,trivial⟩ ?_;refine iT 0 rfl rfl rfl rfl (gu (i:=Int.toNat y2.2.1) (off:=0) rfl bV (λ_=>rfl) rfl (dD y).2.2 rfl) ⟨rfl,trivial⟩ ?_;obtain⟨x6,x,h⟩:=aa h;refine iT 0 rfl rfl rfl rfl (cG (t:=Ti) rfl fM bV x) ⟨rfl,rfl,trivial⟩ ?_;refine yb 13 [true,true,false,false,true,true,true,true,true,true,true,true,true] [27] [] [] rfl (by kernel_rfl) (by kernel_rfl) (by kernel_rfl) dN (λvs hv hB=>?_);obtain⟨w0,Ug,rfl,Y⟩:=aE hv;obtain⟨w1,Uf,rfl,X⟩:=aE Y;obtain⟨w2,Ue,rfl,U⟩:=aE X;obtain⟨w3,Ud,rfl,Q⟩:=aE U;obtain⟨w4,Uc,rfl,O⟩:=aE Q;obtain⟨w5,Ub,rfl,M⟩:=aE O;obtain⟨w6,Ua,rfl,J⟩:=aE M;obtain⟨w7,T9,rfl,F⟩:=aE J;obtain⟨w8,T8,rfl,E⟩:=aE F;obtain⟨w9,TW,rfl,s⟩:=aE E;obtain⟨TZ,TV,rfl,l⟩:=aE s;obtain⟨TY,zz,rfl,j⟩:=aE l;obtain⟨TX,qt,rfl,e⟩:=aE j;obtain rfl:=tw e;refine⟨[0],[.sl c 3 Ti y2.1],by kernel_rfl,by decide,?_⟩;refine sK rfl rfl (gd (i:=Int.toNat y2.2.1) rfl bV rfl (mR x) rfl .int rfl) ⟨rfl,rfl,trivial⟩ (by kernel_rfl) ?_;obtain⟨x7,u,h⟩:=aa h;refine Br rfl rfl rfl rfl (cG (t:=Ti) rfl fM bV u) ⟨rfl,rfl,trivial⟩ (by kernel_rfl) ?_;refine sK rfl rfl (gd (i:=Int.toNat y2.2.2) rfl bV rfl (mR u) rfl .int rfl) ⟨rfl,rfl,trivial⟩ (by kernel_rfl) ?_;refine xY ?_;refine bX (SE.fin (Γ':=[(0,.eq c),(2,I y2.2.1),(3,I y2.2.2)]) (Δ':=[.sl c 3 Ti (List.set (List.set y2.1 (Int.toNat y2.2.1) x4) (Int.toNat y2.2.2) x5)]) [0] ⟨rfl,rfl,rfl,trivial⟩ rfl) ?_;refine aX (tn (ab (mq ?_)));obtain⟨x8,mc,h⟩:=aa h;refine jb (bo rfl mc) ?_;refine mq ?_;obtain⟨x9,Z,h⟩:=aa h;refine jb (dY rfl Z) ?_;refine aq ?_;refine aq (nl ?_);exact jz ((),(List.set (List.set y2.1 (Int.toNat y2.2.1) x4) (Int.toNat y2.2.2) x5,x8,x9)) h [0]
 .
  refine eW (bF (bF (cO (jM ?_))));cases h;exact aP () [] 1 trivial rfl
def kW(k:Nat)(a0:Int)(a1:Int)(a2:Bool):Option bY:=
 some (a0,a1,a2)
theorem lS(k:Nat)(a0:Int)(a1:Int)(a2:Bool)(r:bY)(h:kW k a0 a1 a2=some r):
 dF Tryz.prog 31 [I a0,I a1,.eq (.bool a2)] [] (λ_:Unit=>(bJ [.rep bR r],[])):=by
 unfold kW at h
 replace h:=bq h
 refine dF.of 11 Tryz.func31 rfl Tryz.ntmps31 rfl λS w0=>?_
 refine sr ?_
 refine bg rfl rfl rfl (bI rfl IF N9) trivial λb1=>?_
 refine nt ?_
 refine sr ?_
 iterate 3 refine mq ?_
 refine jc (ee [(0,.tmp 7,_),(1,.tmp 8,_),(2,.tmp 9,_)] rfl Q9 IF Qn (j7 ⟨rfl,rfl,rfl,trivial⟩) rfl) ?_
 refine aW rfl rfl (aS rfl wR trivial rfl rfl) ⟨rfl,rfl,trivial⟩ ?_
 refine nt ?_
 refine ax ?_
 refine bX (ju (a:=.agg (.pair (I a0) (.pair (I a1) (.eq (.bool a2))))) (a':=.rep bR (a0,a1,a2)) (sN (.agg (.pair .int (.pair .int .bool))))) ?_
 cases h
 exact aP () [.rep bR (a0,a1,a2)] 0 ⟨⟨_,_,_,_,_,rfl,(.head _),wR,(vk),rfl⟩,trivial⟩ rfl
def ip(k:Nat)(a0:(List bY)):Option ae:=
 (kW k 1 2 true).bind λr2=>
 (kW k 2 1 false).bind λr3=>
 (kW k 3 3 false).bind λr4=>
 (cN (cu (length [r2,r3,r4]+length a0))).bind λ_=>
 some (4,1,1,2,[[[0,1,2],[3]],[[0,1],[2,3]],[[1,2,3]],[[1,3],[2]]],[r2,r3,r4]++a0)
theorem gA(k:Nat)(a0:(List bY))(r:ae)(h:ip k a0=some r):
 dF Tryz.prog 47 [Rs bR a0] [] (λ_:Unit=>(bJ [.rep au r],[])):=by
 unfold ip at h
 replace h:=bq h
 refine dF.of 24 Tryz.func47 rfl Tryz.ntmps47 rfl λS w0=>?_
 refine sr ?_
 refine bg rfl rfl rfl (bI rfl Dq KP) trivial λb1=>?_
 refine nt ?_
 refine sr ?_
 obtain⟨r2,l,h⟩:=aa h
 have u:=lS k 1 2 true r2 l
 refine jc (av [.const (.int .i64 (1)),.const (.int .i64 (2)),.const (.bool true)] rfl rfl NQ rfl u) ?_
 obtain⟨r3,j,h⟩:=aa h
 have s:=lS k 2 1 false r3 j
 refine jc (av [.const (.int .i64 (2)),.const (.int .i64 (1)),.const (.bool false)] rfl rfl NQ rfl s) ?_
 obtain⟨r4,e,h⟩:=aa h
 have n:=lS k 3 3 false r4 e
 refine jc (av [.const (.int .i64 (3)),.const (.int .i64 (3)),.const (.bool false)] rfl rfl NQ rfl n) ?_
 refine bg rfl rfl rfl (mJ (t:=bR) [(.tmp 4,_),(.tmp 5,_),(.tmp 6,_)] [r2,r3,r4] rfl rfl OY (.cons rfl .rep (.cons rfl .rep (.cons rfl .rep .nil))) rfl rfl) ⟨rfl,rfl,rfl,trivial⟩ λv5=>?_
 refine aq ?_
 refine nt ?_
 refine sr ?_
 refine jc (bi (t:=Ti) [(.const (.int .i64 (0)),_),(.const (.int .i64 (1)),_),(.const (.int .i64 (2)),_)] [0,1,2] rfl rfl dy (.cons rfl .int (.cons rfl .int (.cons rfl .int .nil))) rfl rfl) ?_
 refine ja (bi (t:=Ti) [(.const (.int .i64 (3)),_)] [3] rfl rfl dy (.cons rfl .int .nil) rfl rfl) ?_
 refine jb (bi (t:=Tl) [(.tmp 8,_),(.tmp 9,_)] [[0,1,2],[3]] rfl rfl o5 (.cons rfl .rep (.cons rfl .rep .nil)) rfl rfl) ?_
 refine jb (bi (t:=Ti) [(.const (.int .i64 (0)),_),(.const (.int .i64 (1)),_)] [0,1] rfl rfl dy (.cons rfl .int (.cons rfl .int .nil)) rfl rfl) ?_
 refine jb (bi (t:=Ti) [(.const (.int .i64 (2)),_),(.const (.int .i64 (3)),_)] [2,3] rfl rfl dy (.cons rfl .int (.cons rfl .int .nil)) rfl rfl) ?_
 refine jb (bi (t:=Tl) [(.tmp 11,_),(.tmp 12,_)] [[0,1],[2,3]] rfl rfl o5 (.cons rfl .rep (.cons rfl .rep .nil)) rfl rfl) ?_
 refine jc (bi (t:=Ti) [(.const (.int .i64 (1)),_),(.const (.int .i64 (2)),_),(.const (.int .i64 (3)),_)] [1,2,3] rfl rfl dy (.cons rfl .int (.cons rfl .int (.cons rfl .int .nil))) rfl rfl) ?_
 refine ja (bi (t:=Tl) [(.tmp 14,_)] [[1,2,3]] rfl rfl o5 (.cons rfl .rep .nil) rfl rfl) ?_
 refine jb (bi (t:=Ti) [(.const (.int .i64 (1)),_),(.const (.int .i64 (3)),_)] [1,3] rfl rfl dy (.cons rfl .int (.cons rfl .int .nil)) rfl rfl) ?_
 refine ja (bi (t:=Ti) [(.const (.int .i64 (2)),_)] [2] rfl rfl dy (.cons rfl .int .nil) rfl rfl) ?_
 refine jb (bi (t:=Tl) [(.tmp 16,_),(.tmp 17,_)] [[1,3],[2]] rfl rfl o5 (.cons rfl .rep (.cons rfl .rep .nil)) rfl rfl) ?_
 refine bZ rfl (bi (t:=(.slice Tl)) [(.tmp 10,_),(.tmp 13,_),(.tmp 15,_),(.tmp 18,_)] [[[0,1,2],[3]],[[0,1],[2,3]],[[1,2,3]],[[1,3],[2]]] rfl rfl Ap (.cons rfl .rep (.cons rfl .rep (.cons rfl .rep (.cons rfl .rep .nil)))) rfl rfl) ⟨rfl,rfl,rfl,rfl,trivial⟩ ?_
 iterate 2 refine mq ?_
 obtain⟨u6,c,h⟩:=aa h
 refine ek rfl rfl rfl (cH rfl rfl OY (ao c)) ⟨rfl,rfl,trivial⟩ λv7=>?_
 refine eV (iR [22] ⟨rfl,trivial⟩) ?_
 refine bZ rfl (ee [(0,.const (.int .i64 (4)),_),(1,.const (.int .i64 (1)),_),(2,.const (.int .i64 (1)),_),(3,.const (.int .i64 (2)),_),(4,.tmp 19,_),(5,.tmp 22,_)] rfl O2 Dq LQ (j7 ⟨rfl,rfl,rfl,rfl,rfl,rfl,trivial⟩) rfl) ⟨rfl,rfl,rfl,rfl,rfl,rfl,trivial⟩ ?_
 refine aW rfl rfl (aS rfl jP trivial rfl rfl) ⟨rfl,rfl,trivial⟩ ?_
 refine nt ?_
 refine ax ?_
 refine bX (ju (a:=.agg (.pair (I 4) (.pair (I 1) (.pair (I 1) (.pair (I 2) (.pair (.rep (.slice (.slice Tl)) [[[0,1,2],[3]],[[0,1],[2,3]],[[1,2,3]],[[1,3],[2]]]) (Rs bR ([r2,r3,r4]++a0)))))))) (a':=.rep au (4,1,1,2,[[[0,1,2],[3]],[[0,1],[2,3]],[[1,2,3]],[[1,3],[2]]],[r2,r3,r4]++a0)) (sN (.agg (.pair .int (.pair .int (.pair .int (.pair .int (.pair .rep .rep)))))))) ?_
 cases h
 exact aP () [.rep au (4,1,1,2,[[[0,1,2],[3]],[[0,1],[2,3]],[[1,2,3]],[[1,3],[2]]],[r2,r3,r4]++a0)] 0 ⟨⟨_,_,_,_,_,rfl,(.head _),jP,(vk),rfl⟩,trivial⟩ rfl
def gB(k:Nat)(a0:(List (List Int)))(a1:(List (List Int))):Nat->Int->Option (Except Bool Unit)
 |0,_=>none
 |n+1,y3=>
  if y3 < (a0.length:Int) then((aJ a0 y3).bind λx5=>
  (aJ a1 y3).bind λx6=>
  (iM k x5 x6).bind λr7=>
  if¬(r7=true) then(some (.error false)) else((ck (y3+1)).bind λx8=>
  gB k a0 a1 n x8)) else(some (.ok ()))
def jt(k:Nat)(a0:(List (List Int)))(a1:(List (List Int))):Option Bool:=
 if¬((a0.length:Int)=(a1.length:Int)) then(some false) else(bE (α:=Unit) (gB k a0 a1 k 0) (some) λ_=>
 some true)
theorem mj(k:Nat)(a0:(List (List Int)))(a1:(List (List Int)))(r:Bool)(h:jt k a0 a1=some r):
 dF Tryz.prog 49 [.rep (.slice Tl) a0,.rep (.slice Tl) a1] [] (λ_:Unit=>(bJ [.eq (.bool r)],[])):=by
 unfold jt at h
 replace h:=bq h
 refine dF.of 27 Tryz.func49 rfl Tryz.ntmps49 rfl λS w0=>?_
 refine sr ?_
 refine cq ?_
 refine nt ?_
 refine ak ?_
 refine sr ?_
 refine mq ?_
 refine ol qY ?_
 refine mq ?_
 refine ol qY ?_
 refine jb (eZ rfl) ?_
 refine nt ?_
 refine cn h (λh=>?_) (λh=>?_)
 .
  refine sr (cq (nt (rx ?_)));cases h;exact ra
 .
  refine sk (c7 (Z:=Unit) (α:=Unit) (λz2 x1=>[]) (λz2 x1=>[]) (λe=>e=r) h (λe h=>Option.some.inj h) (λK hR h=>?_) (λz2 x1 h=>?_))
  .refine sr (cq (nt (aj ?_)));refine aH (λz4 y3=>[(0,.rep (.slice Tl) a0),(1,.rep (.slice Tl) a1),(5,I y3)]) (λz4 y3=>[]) (gB k a0 a1) k () 0 (λ_=>rfl) h (SE.fin [] ⟨rfl,rfl,rfl,trivial⟩ rfl) (λn z4 y3 h=>?_);unfold gB at h;refine ak (sr ?_);iterate 2 refine mq ?_
   refine ol qY ?_;refine jb (bA rfl) ?_;refine nt (ci h (λh=>?_) (λh=>?_))
   .refine sk (ak (aj (ak (cP ?_))));refine dm ?_;refine dm ?_;obtain⟨x5,l,h⟩:=aa h;refine db (aI (t:=Tl) rfl qY gJ l) ?_;refine da (am (t:=Tl) rfl gJ rfl) ?_;refine dm ?_;refine dm ?_;obtain⟨x6,j,h⟩:=aa h;refine db (aI (t:=Tl) rfl qY gJ j) ?_;refine da (am (t:=Tl) rfl gJ rfl) ?_;refine df dN ?_;obtain⟨r7,s,h⟩:=aa h;refine jb (av [.tmp 20,.tmp 24] rfl rfl NR rfl (jX k x5 x6 r7 s)) ?_;refine ja (gU rfl) ?_;refine nt (cw h (λh=>?_) (λh=>?_))
    .refine sr (cq (nt (ax (br (ba (aZ ?_))))));obtain rfl:=hR _ h;exact ra
    .refine bf (aX (tn (ab (mq ?_))));obtain⟨x8,c,h⟩:=aa h;refine jb (bo rfl c) ?_;refine aq (nl ?_);exact jz ((),x8) h []
   .refine xa ?_;exact jz ((),()) h []
  .refine sr (cq (nt (ax ?_)));cases h;exact ra
def kC(k:Nat)(a0:(List Int))(a1:Int):Nat->Int->Option (Except Int Unit)
 |0,_=>none
 |n+1,y3=>
  if y3 < (a0.length:Int) then((aJ a0 y3).bind λx5=>
  if x5=a1 then(some (.error y3)) else((ck (y3+1)).bind λx6=>
  kC k a0 a1 n x6)) else(some (.ok ()))
def rZ(k:Nat)(a0:(List Int))(a1:Int):Option Int:=
 bE (α:=Unit) (kC k a0 a1 k 0) (some) λ_=>
 some (-1:Int)
theorem wb(k:Nat)(a0:(List Int))(a1:Int)(r:Int)(h:rZ k a0 a1=some r):
 dF Tryz.prog 19 [.rep Tl a0,I a1] [] (λ_:Unit=>(bJ [I r],[])):=by
 unfold rZ at h
 replace h:=bq h
 refine dF.of 19 Tryz.func19 rfl Tryz.ntmps19 rfl λS w0=>?_
 refine sr ?_
 refine cq ?_
 refine nt ?_
 refine c7 (Z:=Unit) (α:=Unit) (λz2 x1=>[]) (λz2 x1=>[]) (λe=>e=r) h (λe h=>Option.some.inj h) (λK hR h=>?_) (λz2 x1 h=>?_)
 .
  refine sr (cq (nt (aj ?_)));refine aH (λz4 y3=>[(0,.rep Tl a0),(1,I a1),(5,I y3)]) (λz4 y3=>[]) (kC k a0 a1) k () 0 (λ_=>rfl) h (SE.fin [] ⟨rfl,rfl,rfl,trivial⟩ rfl) (λn z4 y3 h=>?_);unfold kC at h;refine ak (sr ?_);iterate 2 refine mq ?_
  refine ol fM ?_;refine jb (bA rfl) ?_;refine nt (ci h (λh=>?_) (λh=>?_))
  .refine sk (ak (aj (sr ?_)));iterate 2 refine mq ?_
   obtain⟨x5,j,h⟩:=aa h;refine jb (aI (t:=Ti) rfl fM bV j) ?_;refine ja (am (t:=Ti) rfl bV rfl) ?_;refine mq ?_;refine jb (iD rfl) ?_;refine nt (ci h (λh=>?_) (λh=>?_))
   .refine sr (mq ?_);refine aq (nt (ax (br (ba (aZ ?_)))));obtain rfl:=hR _ h;exact ra
   .refine bf (aX (tn (ab (mq ?_))));obtain⟨x6,c,h⟩:=aa h;refine jb (bo rfl c) ?_;refine aq (nl ?_);exact jz ((),x6) h []
  .refine xa ?_;exact jz ((),()) h []
 .
  refine sr (cq (nt (ax ?_)));cases h;exact ra
def fi(k:Nat)(a1:Int):Nat->((List Int)×Int×Int×(List Int)×Int)->Option ((List Int)×(List Int)×Int×Int)
 |0,_=>none
 |n+1,y3=>
  if y3.2.2.2.2 < a1 then((((eX k (y3.1,y3.2.1,y3.2.2.1) 3).bind λr7=>
  if r7.1=true then((cN (cu (length y3.2.2.2.1+length [y3.2.2.2.2]))).bind λ_=>
  some (r7.2.1,r7.2.2.1,r7.2.2.2,y3.2.2.2.1++[y3.2.2.2.2])) else(some (r7.2.1,r7.2.2.1,r7.2.2.2,y3.2.2.2.1))):Option ((List Int)×Int×Int×(List Int))).bind λx5=>
  (ck (y3.2.2.2.2+1)).bind λc=>
  fi k a1 n (x5.1,x5.2.1,x5.2.2.1,x5.2.2.2,c)) else(some (y3.2.2.2.1,y3.1,y3.2.1,y3.2.2.1))
def jD(k:Nat)(a0:bT)(a1:Int):Option ((List Int)×bT):=
 ((fi k a1 k (a0.1,a0.2.1,a0.2.2,([]:(List Int)),0)):Option ((List Int)×(List Int)×Int×Int)).bind λx1=>
 some (x1.1,(x1.2.1,x1.2.2.1,x1.2.2.2))
theorem um(k:Nat)(a0:bT)(c:Nat)(a1:Int)(r:(List Int)×bT)(h:jD k a0 a1=some r):
 dF Tryz.prog 28 [Pt c,I a1] [.obj c 69 (.agg (.pair (.rep Tl a0.1) (.pair (I a0.2.1) (.eq (.int .u64 a0.2.2)))))] (λ_:Unit=>(bJ [.rep Tl r.1],[.obj c 69 (.agg (.pair (.rep Tl r.2.1) (.pair (I r.2.2.1) (.eq (.int .u64 r.2.2.2)))))])):=by
 unfold jD at h
 replace h:=bq h
 refine dF.of 19 Tryz.func28 rfl Tryz.ntmps28 rfl λS w0=>?_
 refine sr ?_
 refine cq ?_
 refine nt ?_
 refine sr ?_
 refine cq ?_
 refine nt ?_
 refine aG (Z:=Value) (α:=(List Int)×(List Int)×Int×Int) (λz2 x1=>[(5,.eq z2)]) (λz2 x1=>[.sl z2 3 Ti x1.1,.obj c 69 (.agg (.pair (.rep Tl x1.2.1) (.pair (I x1.2.2.1) (.eq (.int .u64 x1.2.2.2)))))]) h (λK h=>?_) (λz2 x1 h=>?_)
 .
  refine sr (cq (nt (aj ?_)));refine jN (SE.nil 3 Ti) ?_;refine aH (λz4 y3=>[(0,Pt c),(1,I a1),(5,.eq z4),(6,I y3.2.2.2.2)]) (λz4 y3=>[.obj c 69 (.agg (.pair (.rep Tl y3.1) (.pair (I y3.2.1) (.eq (.int .u64 y3.2.2.1))))),.sl z4 3 Ti y3.2.2.2.1]) (fi k a1) k (.slice none 0 0) (a0.1,a0.2.1,a0.2.2,([]:(List Int)),0) (λ_=>rfl) h (SE.fin [1,0] ⟨rfl,rfl,rfl,rfl,trivial⟩ rfl) (λn z4 y3 h=>?_);unfold fi at h;refine ak (sr ?_);iterate 2 refine mq ?_
  refine jb (bA rfl) ?_;refine nt (ci h (λh=>?_) (λh=>?_))
  .refine sk (aG (Z:=Value) (α:=(List Int)×Int×Int×(List Int)) (λz6 x5=>[(0,Pt c),(1,I a1),(5,.eq z6),(6,I y3.2.2.2.2)]) (λz6 x5=>[.obj c 69 (.agg (.pair (.rep Tl x5.1) (.pair (I x5.2.1) (.eq (.int .u64 x5.2.2.1))))),.sl z6 3 Ti x5.2.2.2]) h (λK h=>?_) (λz6 x5 h=>?_))
   .refine aj (sr (mq ?_));obtain⟨r7,s,h⟩:=aa h;refine kb (av [.tmp 12,.const (.int .i64 (3))] rfl rfl NK rfl (jf k (y3.1,y3.2.1,y3.2.2.1) c 3 r7 s)) ?_;refine nt (cv h (λh=>?_) (λh=>?_))
    .refine ab ?_;iterate 2 refine mq ?_
     refine ja (bi (t:=Ti) [(.tmp 15,_)] [y3.2.2.2.2] rfl rfl dy (.cons rfl .int .nil) rfl rfl) ?_;obtain⟨u8,l,h⟩:=aa h;refine fr 1 ?_;refine ek rfl rfl rfl (cH rfl rfl dy (ao l)) ⟨rfl,rfl,trivial⟩ λv9=>?_;refine aq (aA (bn ?_));exact jz (v9,(r7.2.1,r7.2.2.1,r7.2.2.2,y3.2.2.2.1++[y3.2.2.2.2])) h [1,0]
    .refine bf (bn ?_);exact jz (z4,(r7.2.1,r7.2.2.1,r7.2.2.2,y3.2.2.2.1)) h [0,1]
   .refine ab (mq ?_);obtain⟨j,e,h⟩:=aa h;refine jb (bo rfl e) ?_;refine aq (nl ?_);exact jz (z6,(x5.1,x5.2.1,x5.2.2.1,x5.2.2.2,j)) h [0,1]
  .refine xa ?_;exact jz (z4,(y3.2.2.2.1,y3.1,y3.2.1,y3.2.2.1)) h [1,0]
 .
  refine sr (mq ?_);refine aq (nt (ax ?_));refine bX (iR [4,5,18] ⟨rfl,rfl,rfl,trivial⟩) ?_;cases h;exact aP () [_] 1 ⟨rfl,trivial⟩ rfl
def dH(k:Nat)(a2:Int)(e:(List Int)):Nat->Int->Option (Except ((List Int)×Bool) Unit)
 |0,_=>none
 |n+1,c=>
  if c < (e.length:Int) then((aJ e c).bind λD=>
  if¬(D=a2) then((ck (c+1)).bind λy=>
  dH k a2 e n y) else(((if 0 < c then((ck (c - 1)).bind λx=>
  (aJ e x).bind λl=>
  (cN (cu (length ([]:(List Int))+length [l]))).bind λ_=>
  some (([]:(List Int))++[l])) else(some ([]:(List Int)))):Option ((List Int))).bind λh=>
  (((ck (c+1)).bind λs=>
  if s < (e.length:Int) then((ck (c+1)).bind λr=>
  (aJ e r).bind λj=>
  (cN (cu (length h+length [j]))).bind λ_=>
  some (h++[j])) else(some h)):Option ((List Int))).bind λu=>
  some (.error (u,true)))) else(some (.ok ()))
def dX(k:Nat)(a0:ae)(a1:Int)(a2:Int):Nat->Int->Option (Except ((List Int)×Bool) Unit)
 |0,_=>none
 |n+1,y4=>
  (aJ a0.2.2.2.2.1 a1).bind λx6=>
  if y4 < (x6.length:Int) then(bE (α:=Unit) ((aJ a0.2.2.2.2.1 a1).bind λx9=>
  (aJ x9 y4).bind λh=>
  dH k a2 h k 0) (λe=>some (.error e)) λ_=>
  (ck (y4+1)).bind λc=>
  dX k a0 a1 a2 n c) else(some (.ok ()))
def kO(k:Nat)(a0:ae)(a1:Int)(a2:Int):Option ((List Int)×Bool):=
 bE (α:=Unit) (dX k a0 a1 a2 k 0) (some) λ_=>
 some (([]:(List Int)),false)
theorem vd(k:Nat)(a0:ae)(a1:Int)(a2:Int)(r:(List Int)×Bool)(h:kO k a0 a1 a2=some r):
 dF Tryz.prog 30 [.rep au a0,I a1,I a2] [] (λ_:Unit=>(bJ [.rep Tl r.1,.eq (.bool r.2)],[])):=by
 unfold kO at h
 replace h:=bq h
 refine dF.of 66 Tryz.func30 rfl Tryz.ntmps30 rfl λS w0=>?_
 refine sr ?_
 refine bx λb1=>?_
 refine cq ?_
 refine cq ?_
 refine nt ?_
 refine c7 (Z:=Unit) (α:=Unit) (λz3 x2=>[]) (λz3 x2=>[]) (λe=>e=r) h (λe h=>Option.some.inj h) (λK hR h=>?_) (λz3 x2 h=>?_)
 .
  refine sr (cq (nt (aj ?_)));refine aH (λz5 y4=>[(1,I a1),(2,I a2),(3,Pt b1),(8,I y4)]) (λz5 y4=>[.obj b1 26 (.rep au a0)]) (dX k a0 a1 a2) k () 0 (λ_=>rfl) h (SE.fin [0] ⟨rfl,rfl,rfl,rfl,trivial⟩ rfl) (λn z5 y4 h=>?_);unfold dX at h;refine ak (sr (mq ?_));refine fl dU ?_;refine lo kh ?_;refine mq ?_;obtain⟨x6,T8,h⟩:=aa h;refine jb (aI (t:=(.slice Tl)) rfl yi sZ T8) ?_;refine ja (am (t:=(.slice Tl)) rfl sZ rfl) ?_;refine ol qY ?_;refine jb (bA rfl) ?_;refine nt (ci h (λh=>?_) (λh=>?_))
  .refine sk (c7 (Z:=Unit) (α:=Unit) (λz8 x7=>[(1,I a1),(2,I a2),(3,Pt b1),(8,I y4)]) (λz8 x7=>[.obj b1 26 (.rep au a0)]) (λe=>e=r) h (λe h=>hR e h) (λK hR h=>?_) (λz8 x7 h=>?_))
   .refine aj (sr (fl dU ?_));refine lo kh ?_;refine mq ?_;obtain⟨x9,TZ,h⟩:=aa h;refine jb (aI (t:=(.slice Tl)) rfl yi sZ TZ) ?_;refine ja (am (t:=(.slice Tl)) rfl sZ rfl) ?_;refine mq ?_;obtain⟨y,mw,h⟩:=aa h;refine jb (aI (t:=Tl) rfl qY gJ mw) ?_;refine ja (am (t:=Tl) rfl gJ rfl) ?_;refine aq (nt (sr ?_));refine cq (nt (aj ?_));refine aH (λD s=>[(1,I a1),(2,I a2),(3,Pt b1),(8,I y4),(9,.rep Tl y),(10,I s)]) (λD s=>[.obj b1 26 (.rep au a0)]) (dH k a2 y) k () 0 (λ_=>rfl) h (SE.fin [0] ⟨rfl,rfl,rfl,rfl,rfl,rfl,trivial⟩ rfl) (λn D s h=>?_);unfold dH at h;refine ak (sr ?_);iterate 2 refine mq ?_
    refine ol fM ?_;refine jb (bA rfl) ?_;refine nt (ci h (λh=>?_) (λh=>?_))
    .refine sk (ak (aj (ak (sr ?_))));iterate 2 refine mq ?_
     obtain⟨Uc,mc,h⟩:=aa h;refine jb (aI (t:=Ti) rfl fM bV mc) ?_;refine ja (am (t:=Ti) rfl bV rfl) ?_;refine mq ?_;refine jb (eZ rfl) ?_;refine nt (cn h (λh=>?_) (λh=>?_))
     .refine eW (bF (cO (tn (ab (mq ?_)))));obtain⟨TW,Y,h⟩:=aa h;refine jb (bo rfl Y) ?_;refine aq (nl ?_);exact jz ((),TW) h [0]
     .refine sk (sr (cq (nt ?_)));refine aG (Z:=Value) (α:=(List Int)) (λc j=>[(9,.rep Tl y),(10,I s),(11,.eq c)]) (λc j=>[.sl c 3 Ti j]) h (λK h=>?_) (λc j h=>?_)
      .refine sr (mq ?_);refine jb (me rfl) ?_;refine nt (ci h (λh=>?_) (λh=>?_))
       .refine ab ?_;iterate 3 refine mq ?_
        obtain⟨Ub,X,h⟩:=aa h;refine jb (dY rfl X) ?_;obtain⟨F,U,h⟩:=aa h;refine jb (aI (t:=Ti) rfl fM bV U) ?_;refine ja (am (t:=Ti) rfl bV rfl) ?_;refine ja (bi (t:=Ti) [(.tmp 49,_)] [F] rfl rfl dy (.cons rfl .int .nil) rfl rfl) ?_;refine eV (SE.nil 3 Ti) ?_;obtain⟨Ue,zz,h⟩:=aa h;refine ek rfl rfl rfl (cH rfl rfl dy (ao zz)) ⟨rfl,rfl,trivial⟩ λTY=>?_;refine aq (nl ?_);exact jz (TY,([]:(List Int))++[F]) h [0]
       .refine bf (an (bX (SE.nil 3 Ti) ?_));exact jz ((.slice none 0 0),([]:(List Int))) h [0]
      .refine aG (Z:=Value) (α:=(List Int)) (λl u=>[(11,.eq l)]) (λl u=>[.sl l 3 Ti u]) h (λK h=>?_) (λl u h=>?_)
       .refine sr (mq ?_);obtain⟨Ua,Q,h⟩:=aa h;refine jb (bo rfl Q) ?_;refine mq ?_;refine ol fM ?_;refine jb (bA rfl) ?_;refine nt (ci h (λh=>?_) (λh=>?_))
        .refine ab ?_;iterate 3 refine mq ?_
         obtain⟨T9,O,h⟩:=aa h;refine jb (bo rfl O) ?_;obtain⟨E,M,h⟩:=aa h;refine jb (aI (t:=Ti) rfl fM bV M) ?_;refine ja (am (t:=Ti) rfl bV rfl) ?_;refine ja (bi (t:=Ti) [(.tmp 62,_)] [E] rfl rfl dy (.cons rfl .int .nil) rfl rfl) ?_;obtain⟨Ud,qt,h⟩:=aa h;refine ek rfl rfl rfl (cH rfl rfl dy (ao qt)) ⟨rfl,rfl,trivial⟩ λTX=>?_;refine aq (nl ?_);exact jz (TX,j++[E]) h [0]
        .refine bf (an ?_);exact jz (c,j) h [0]
       .refine sr (mq ?_);refine aq ?_;refine cq (nt (ax (br (ba (br (ba (aZ ?_)))))));refine bX (iR [6,11,65] ⟨rfl,rfl,rfl,trivial⟩) ?_;obtain rfl:=hR _ h;exact rb
    .refine eW (bF (bF (cO (bn ?_))));exact jz ((),()) h [0]
   .refine ab (mq ?_);obtain⟨TV,J,h⟩:=aa h;refine jb (bo rfl J) ?_;refine aq (nl ?_);exact jz ((),TV) h [0]
  .refine xa ?_;exact jz ((),()) h []
 .
  refine sr (cq ?_);refine cq (nt (ax ?_));refine bX (eB (t:=Tl) (x:=([]:(List Int))) 6 rfl .nil rfl rfl) ?_;cases h;exact rb
