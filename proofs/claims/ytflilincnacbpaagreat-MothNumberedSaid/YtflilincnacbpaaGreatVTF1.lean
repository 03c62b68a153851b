import Derived.Test.YtflilincnacbpaaGreatVTFacts
open Nat
open List hiding mem_of_getElem?
open Array hiding mem_of_getElem? mk
set_option linter.unusedSimpArgs false
set_option linter.unusedVariables false
set_option maxRecDepth 4000
set_option maxHeartbeats 1000000
namespace Go.Proofs.YtflilincnacbpaaGreat
open K Go Go.Proofs
def l9(k:Nat)(a0:(List Int)):Option ba:=
 some (a0,0,1)
theorem vc(k:Nat)(a0:(List Int))(r:ba)(h:l9 k a0=some r):
 dG Tryz.prog 4 [.rep Tl a0] [] (λz:Nat=>(bO [Pt z],[.obj z 46 (.agg (.pair (.rep Tl r.1) (.pair (I r.2.1) (.eq (.int .u64 r.2.2)))))])):=by
 unfold l9 at h
 replace h:=bp h
 refine dG.of 6 Tryz.func4 rfl Tryz.ntmps4 rfl λS w0=>?_
 refine sr ?_
 refine cq ?_
 refine nt ?_
 refine sr ?_
 refine mq ?_
 refine jb (eo [(0,.tmp 3,_),(2,.const (.int .u64 (1)),_)] rfl TS TN SL (jM ⟨rfl,rfl,trivial⟩) rfl) ?_
 refine aX rfl rfl rfl (uT rfl trivial) ⟨rfl,trivial⟩ λb1=>?_
 refine aq ?_
 refine nt ?_
 refine aF ?_
 cases h
 exact aQ b1 [Pt b1] 1 ⟨rfl,trivial⟩ rfl
def ip(k:Nat)(a0:ba):Option (Int×ba):=
 ((if a0.2.1 < (a0.1.length:Int) then((aG a0.1 a0.2.1).bind λx3=>
 some (IntKind.u64.wrap ((IntKind.u64.wrap ((IntKind.u64.wrap (a0.2.2 * 6364136223846793005))+1442695040888963407))+(IntKind.u64.wrap ((IntKind.u64.wrap x3) * 2862933555777941757))))) else(some (IntKind.u64.wrap ((IntKind.u64.wrap (a0.2.2 * 6364136223846793005))+1442695040888963407)))):Option (Int)).bind λx1=>
 (ck (a0.2.1+1)).bind λx4=>
 some (iu .u64 (tc .u64 (IntKind.u64.wrap ((tc .u64 x1 (iu .u64 x1 29)) * 2685821657736338717)) (iu .u64 (IntKind.u64.wrap ((tc .u64 x1 (iu .u64 x1 29)) * 2685821657736338717)) 32)) 8,(a0.1,x4,x1))
theorem sY(k:Nat)(a0:ba)(c:Nat)(r:Int×ba)(h:ip k a0=some r):
 dG Tryz.prog 34 [Pt c] [.obj c 46 (.agg (.pair (.rep Tl a0.1) (.pair (I a0.2.1) (.eq (.int .u64 a0.2.2)))))] (λ_:Unit=>(bO [.eq (.int .u64 r.1)],[.obj c 46 (.agg (.pair (.rep Tl r.2.1) (.pair (I r.2.2.1) (.eq (.int .u64 r.2.2.2)))))])):=by
 unfold ip at h
 replace h:=bp h
 refine dG.of 67 Tryz.func34 rfl Tryz.ntmps34 rfl λS w0=>?_
 refine sr ?_
 refine cq ?_
 refine nt ?_
 refine sr ?_
 iterate 2 refine mq ?_
 refine ja (cV rfl) ?_
 refine fl tg ?_
 refine lo E6 ?_
 refine jb (BU rfl) ?_
 refine jb (Ie rfl) ?_
 refine ja (cV rfl) ?_
 refine fl tg ?_
 refine aP rfl rfl (aM rfl E6 rfl rfl rfl) ⟨rfl,rfl,trivial⟩ ?_
 refine nt ?_
 refine aJ (Z:=Unit) (α:=Int) (λz2 x1=>[(0,Pt c)]) (λz2 x1=>[.obj c 46 (.agg (.pair (.rep Tl a0.1) (.pair (I a0.2.1) (.eq (.int .u64 x1)))))]) h (λK h=>?_) (λz2 x1 h=>?_)
 .
  refine am (cN ?_);refine dm ?_;refine da (cV rfl) ?_;refine da (aA rfl yv) ?_;refine ea 0 (ax rfl cL nY rfl) ?_;refine dm ?_;refine da (cV rfl) ?_;refine da (aA rfl I4) ?_;refine ea 0 (ax rfl ii nY rfl) ?_;refine da (nP rfl rfl ix) ?_;refine df d4 ?_;refine jb (bG rfl) ?_;refine nt (ci h (λh=>?_) (λh=>?_))
  .refine cN ?_;refine dm ?_;refine dm ?_;refine da (cV rfl) ?_;refine da (aA rfl tg) ?_;refine ea 0 (ax rfl E6 nY rfl) ?_;refine dm ?_;refine da (cV rfl) ?_;refine da (aA rfl I4) ?_;refine ea 0 (ax rfl ii nY rfl) ?_;refine dm ?_;refine da (cV rfl) ?_;refine da (aA rfl yv) ?_;refine ea 0 (ax rfl cL nY rfl) ?_;obtain⟨x3,j,h⟩:=aa h;refine db (aU (t:=Ti) rfl ix cL j) ?_;refine da (ay (t:=Ti) rfl cL rfl) ?_;refine da (sJ rfl U3 TA) ?_;refine db (BU rfl) ?_;refine db (Ie rfl) ?_;refine df d4 ?_;refine ja (cV rfl) ?_;refine fl tg ?_;refine aP rfl rfl (aM rfl E6 rfl rfl rfl) ⟨rfl,rfl,trivial⟩ ?_;refine nl ?_;exact jz ((),IntKind.u64.wrap ((IntKind.u64.wrap ((IntKind.u64.wrap (a0.2.2 * 6364136223846793005))+1442695040888963407))+(IntKind.u64.wrap ((IntKind.u64.wrap x3) * 2862933555777941757)))) h [0]
  .refine bj (ao ?_);exact jz ((),IntKind.u64.wrap ((IntKind.u64.wrap (a0.2.2 * 6364136223846793005))+1442695040888963407)) h [0]
 .
  refine sr (mq ?_);refine ja (cV rfl) ?_;refine fl yv ?_;refine lo cL ?_;obtain⟨x4,e,h⟩:=aa h;refine jb (bA rfl e) ?_;refine ja (cV rfl) ?_;refine fl yv ?_;refine aP rfl rfl (aM rfl cL rfl rfl rfl) ⟨rfl,rfl,trivial⟩ ?_;refine nt (am (cN ?_));refine dm ?_;refine da (cV rfl) ?_;refine da (aA rfl tg) ?_;refine ea 0 (ax rfl E6 nY rfl) ?_;refine dm ?_;refine da (cV rfl) ?_;refine da (aA rfl tg) ?_;refine ea 0 (ax rfl E6 nY rfl) ?_;refine gh rfl rfl rfl (uS rfl (by decide)) ⟨rfl,rfl,trivial⟩ ?_;refine df d4 ?_;refine jb (N4 rfl) ?_;refine aq (nt (sr ?_));refine mq ?_;refine jb (BU rfl) ?_;refine aq (nt (sr ?_));iterate 2 refine mq ?_
  refine bh rfl (uS rfl (by decide)) ⟨rfl,rfl,trivial⟩ ?_;refine jb (N4 rfl) ?_;refine bh rfl (uS rfl (by decide)) ⟨rfl,rfl,trivial⟩ ?_;refine aq (nt (aF ?_));cases h;exact aQ () [_] 1 ⟨rfl,trivial⟩ rfl
def cE(k:Nat)(a0:ba)(a1:Int):Option (Int×ba):=
 if a1 < 1 then(some (0,(a0.1,a0.2.1,a0.2.2))) else((ip k (a0.1,a0.2.1,a0.2.2)).bind λr1=>
 (ck (a1+1)).bind λx2=>
 (cM ((IntKind.u64.wrap x2)≠0)).bind λ_=>
 (ck (Int.tmod r1.1 (IntKind.u64.wrap x2))).bind λx4=>
 some (x4,(r1.2.1,r1.2.2.1,r1.2.2.2)))
theorem cO(k:Nat)(a0:ba)(c:Nat)(a1:Int)(r:Int×ba)(h:cE k a0 a1=some r):
 dG Tryz.prog 15 [Pt c,I a1] [.obj c 46 (.agg (.pair (.rep Tl a0.1) (.pair (I a0.2.1) (.eq (.int .u64 a0.2.2)))))] (λ_:Unit=>(bO [I r.1],[.obj c 46 (.agg (.pair (.rep Tl r.2.1) (.pair (I r.2.2.1) (.eq (.int .u64 r.2.2.2)))))])):=by
 unfold cE at h
 replace h:=bp h
 refine dG.of 14 Tryz.func15 rfl Tryz.ntmps15 rfl λS w0=>?_
 refine sr ?_
 refine cq ?_
 refine nt ?_
 refine am ?_
 refine sr ?_
 refine mq ?_
 refine jb (bG rfl) ?_
 refine nt ?_
 refine ci h (λh=>?_) (λh=>?_)
 .
  refine sr (cq (nt (rx ?_)));cases h;exact aQ () [_] 1 ⟨rfl,trivial⟩ rfl
 .
  refine sk (sr (mq ?_));obtain⟨r1,n,h⟩:=aa h;refine ka (aC [.tmp 7] rfl rfl UG rfl (sY k (a0.1,a0.2.1,a0.2.2) c r1 n)) ?_;refine mq ?_;obtain⟨x2,j,h⟩:=aa h;refine jb (bA rfl j) ?_;refine ja (sJ rfl U3 TA) ?_;obtain⟨u3,l,h⟩:=aa h;refine jb (Q9 rfl (au l)) ?_;obtain⟨x4,e,h⟩:=aa h;refine ja (zQ rfl TA U3 e) ?_;refine aq (nt (aF ?_));cases h;exact aQ () [_] 1 ⟨rfl,trivial⟩ rfl
def eD(k:Nat)(a0:ba)(a1:Int):Option (Bool×ba):=
 (ck (a1 - 1)).bind λx1=>
 (cE k (a0.1,a0.2.1,a0.2.2) x1).bind λr2=>
 some (decide (r2.1=0),(r2.2.1,r2.2.2.1,r2.2.2.2))
theorem ia(k:Nat)(a0:ba)(c:Nat)(a1:Int)(r:Bool×ba)(h:eD k a0 a1=some r):
 dG Tryz.prog 17 [Pt c,I a1] [.obj c 46 (.agg (.pair (.rep Tl a0.1) (.pair (I a0.2.1) (.eq (.int .u64 a0.2.2)))))] (λ_:Unit=>(bO [.eq (.bool r.1)],[.obj c 46 (.agg (.pair (.rep Tl r.2.1) (.pair (I r.2.2.1) (.eq (.int .u64 r.2.2.2)))))])):=by
 unfold eD at h
 replace h:=bp h
 refine dG.of 10 Tryz.func17 rfl Tryz.ntmps17 rfl λS w0=>?_
 refine sr ?_
 refine cq ?_
 refine nt ?_
 refine sr ?_
 iterate 2 refine mq ?_
 obtain⟨x1,e,h⟩:=aa h
 refine jb (eA rfl e) ?_
 obtain⟨r2,j,h⟩:=aa h
 have l:=cO k (a0.1,a0.2.1,a0.2.2) c x1 r2 j
 refine kb (aC [.tmp 5,.tmp 7] rfl rfl wq rfl l) ?_
 refine jb (jN rfl) ?_
 refine aq ?_
 refine nt ?_
 refine aF ?_
 cases h
 exact aQ () [_] 1 ⟨rfl,trivial⟩ rfl
def jh(k:Nat)(a0:(List Int)):Option (List Int):=
 (cM (bN (length ([]:(List Int))+length a0))).bind λ_=>
 some (([]:(List Int))++a0)
theorem nT(k:Nat)(a0:(List Int))(r:(List Int))(h:jh k a0=some r):
 dG Tryz.prog 35 [.rep Tl a0] [] (λz:Value=>(bO [.eq z],[.sl z 3 Ti r])):=by
 unfold jh at h
 replace h:=bp h
 refine dG.of 6 Tryz.func35 rfl Tryz.ntmps35 rfl λS w0=>?_
 refine sr ?_
 refine cq ?_
 refine nt ?_
 refine sr ?_
 refine aX rfl rfl rfl (lu (t:=Ti) [] ([]:(List Int)) rfl rfl dX .nil rfl rfl) trivial λv1=>?_
 refine mq ?_
 obtain⟨u2,c,h⟩:=aa h
 refine dZ rfl rfl rfl (cu rfl rfl dX (au c)) ⟨rfl,rfl,trivial⟩ λv3=>?_
 refine aq ?_
 refine nt ?_
 refine aF ?_
 cases h
 exact aQ v3 [.eq v3] 1 ⟨rfl,trivial⟩ rfl
def c7(k:Nat)(a0:(List (List Int))):Nat->((List (List Int))×Int)->Option (List (List Int))
 |0,_=>none
 |n+1,y3=>
  if y3.2 < (a0.length:Int) then((aG a0 y3.2).bind λx5=>
  (jh k x5).bind λr6=>
  (cM (bN (length y3.1+length [r6]))).bind λ_=>
  (ck (y3.2+1)).bind λc=>
  c7 k a0 n (y3.1++[r6],c)) else(some y3.1)
def eE(k:Nat)(a0:(List (List Int))):Option (List (List Int)):=
 ((c7 k a0 k (([]:(List (List Int))),0)):Option ((List (List Int)))).bind λx1=>
 some x1
theorem ta(k:Nat)(a0:(List (List Int)))(r:(List (List Int)))(h:eE k a0=some r):
 dG Tryz.prog 18 [.rep (.slice Tl) a0] [] (λz:Value=>(bO [.eq z],[.sl z 22 Tl r])):=by
 unfold eE at h
 replace h:=bp h
 refine dG.of 20 Tryz.func18 rfl Tryz.ntmps18 rfl λS w0=>?_
 refine sr ?_
 refine cq ?_
 refine nt ?_
 refine sr ?_
 refine cq ?_
 refine nt ?_
 refine aJ (Z:=Value) (α:=(List (List Int))) (λz2 x1=>[(3,.eq z2)]) (λz2 x1=>[.sl z2 22 Tl x1]) h (λK h=>?_) (λz2 x1 h=>?_)
 .
  refine sr (cq (nt (ak ?_)));refine fL (SE.nil 22 Tl) ?_;refine aH (λz4 y3=>[(0,.rep (.slice Tl) a0),(3,.eq z4),(4,I y3.2)]) (λz4 y3=>[.sl z4 22 Tl y3.1]) (c7 k a0) k (.slice none 0 0) (([]:(List (List Int))),0) (λ_=>rfl) h (SE.fin [0] ⟨rfl,rfl,rfl,trivial⟩ rfl) (λn z4 y3 h=>?_);unfold c7 at h;refine am (sr ?_);iterate 2 refine mq ?_
  refine ol qP ?_;refine jb (bG rfl) ?_;refine nt (ci h (λh=>?_) (λh=>?_))
  .refine sk (am (ak (ab ?_)));iterate 3 refine mq ?_
   obtain⟨x5,j,h⟩:=aa h;refine jb (aU (t:=Tl) rfl qP ii j) ?_;refine ja (ay (t:=Tl) rfl ii rfl) ?_;obtain⟨r6,s,h⟩:=aa h;refine aX rfl rfl rfl (aC [.tmp 15] rfl rfl Si rfl (nT k x5 r6 s)) ⟨rfl,trivial⟩ λv7=>?_;refine dM (jk [16] ⟨rfl,trivial⟩) ?_;refine ja (bf (t:=Tl) [(.tmp 16,_)] [r6] rfl rfl nX (.cons rfl .rep .nil) rfl rfl) ?_;obtain⟨u8,l,h⟩:=aa h;refine dZ rfl rfl rfl (cu rfl rfl nX (au l)) ⟨rfl,rfl,trivial⟩ λv9=>?_;refine aq (aD (aR (tn (ab ?_))));refine mq ?_;obtain⟨e,c,h⟩:=aa h;refine jb (bA rfl c) ?_;refine aq (nl ?_);exact jz (v9,(y3.1++[r6],e)) h [0]
  .refine xa ?_;exact jz (z4,y3.1) h [0]
 .
  refine sr (mq ?_);refine aq (nt (aF ?_));cases h;exact aQ z2 [.eq z2] 1 ⟨rfl,trivial⟩ rfl
def fQ(k:Nat)(a0:ba)(a1:Int)(a2:Int):Option (Int×ba):=
 (ck (a2 - a1)).bind λx1=>
 (cE k (a0.1,a0.2.1,a0.2.2) x1).bind λr2=>
 (ck (a1+r2.1)).bind λx3=>
 some (x3,(r2.2.1,r2.2.2.1,r2.2.2.2))
theorem jg(k:Nat)(a0:ba)(c:Nat)(a1:Int)(a2:Int)(r:Int×ba)(h:fQ k a0 a1 a2=some r):
 dG Tryz.prog 31 [Pt c,I a1,I a2] [.obj c 46 (.agg (.pair (.rep Tl a0.1) (.pair (I a0.2.1) (.eq (.int .u64 a0.2.2)))))] (λ_:Unit=>(bO [I r.1],[.obj c 46 (.agg (.pair (.rep Tl r.2.1) (.pair (I r.2.2.1) (.eq (.int .u64 r.2.2.2)))))])):=by
 unfold fQ at h
 replace h:=bp h
 refine dG.of 14 Tryz.func31 rfl Tryz.ntmps31 rfl λS w0=>?_
 refine sr ?_
 refine cq ?_
 refine nt ?_
 refine sr ?_
 iterate 4 refine mq ?_
 obtain⟨x1,j,h⟩:=aa h
 refine jb (eA rfl j) ?_
 obtain⟨r2,l,h⟩:=aa h
 have n:=cO k (a0.1,a0.2.1,a0.2.2) c x1 r2 l
 refine kb (aC [.tmp 8,.tmp 11] rfl rfl wq rfl n) ?_
 obtain⟨x3,e,h⟩:=aa h
 refine jb (bA rfl e) ?_
 refine aq ?_
 refine nt ?_
 refine aF ?_
 cases h
 exact aQ () [_] 1 ⟨rfl,trivial⟩ rfl
def gY(k:Nat)(a0:ba)(a1:(List Int)):Option (Int×ba):=
 (ck ((a1.length:Int) - 1)).bind λx1=>
 (cE k (a0.1,a0.2.1,a0.2.2) x1).bind λr2=>
 (aG a1 r2.1).bind λx3=>
 some (x3,(r2.2.1,r2.2.2.1,r2.2.2.2))
theorem lC(k:Nat)(a0:ba)(c:Nat)(a1:(List Int))(r:Int×ba)(h:gY k a0 a1=some r):
 dG Tryz.prog 32 [Pt c,.rep Tl a1] [.obj c 46 (.agg (.pair (.rep Tl a0.1) (.pair (I a0.2.1) (.eq (.int .u64 a0.2.2)))))] (λ_:Unit=>(bO [I r.1],[.obj c 46 (.agg (.pair (.rep Tl r.2.1) (.pair (I r.2.2.1) (.eq (.int .u64 r.2.2.2)))))])):=by
 unfold gY at h
 replace h:=bp h
 refine dG.of 13 Tryz.func32 rfl Tryz.ntmps32 rfl λS w0=>?_
 refine sr ?_
 refine cq ?_
 refine nt ?_
 refine sr ?_
 iterate 3 refine mq ?_
 refine ol ix ?_
 obtain⟨x1,j,h⟩:=aa h
 refine jb (eA rfl j) ?_
 obtain⟨r2,l,h⟩:=aa h
 have n:=cO k (a0.1,a0.2.1,a0.2.2) c x1 r2 l
 refine kb (aC [.tmp 6,.tmp 9] rfl rfl wq rfl n) ?_
 obtain⟨x3,e,h⟩:=aa h
 refine jb (aU (t:=Ti) rfl ix cL e) ?_
 refine ja (ay (t:=Ti) rfl cL rfl) ?_
 refine aq ?_
 refine nt ?_
 refine aF ?_
 cases h
 exact aQ () [_] 1 ⟨rfl,trivial⟩ rfl
def d5(k:Nat)(a1:Int):Nat->((List Int)×Int×Int×(List Int)×Int)->Option ((List Int)×(List Int)×Int×Int)
 |0,_=>none
 |n+1,y3=>
  if y3.2.2.2.2 < a1 then((cE k (y3.1,y3.2.1,y3.2.2.1) y3.2.2.2.2).bind λr5=>
  (cM (bN (length y3.2.2.2.1+length [y3.2.2.2.2]))).bind λ_=>
  (aG (y3.2.2.2.1++[y3.2.2.2.2]) r5.1).bind λx8=>
  (aG (y3.2.2.2.1++[y3.2.2.2.2]) y3.2.2.2.2).bind λx9=>
  (aG (List.set (y3.2.2.2.1++[y3.2.2.2.2]) (Int.toNat y3.2.2.2.2) x8) r5.1).bind λe=>
  (ck (y3.2.2.2.2+1)).bind λc=>
  d5 k a1 n (r5.2.1,r5.2.2.1,r5.2.2.2,List.set (List.set (y3.2.2.2.1++[y3.2.2.2.2]) (Int.toNat y3.2.2.2.2) x8) (Int.toNat r5.1) y3.2.2.2.2,c)) else(some (y3.2.2.2.1,y3.1,y3.2.1,y3.2.2.1))
def eK(k:Nat)(a0:ba)(a1:Int):Option ((List Int)×ba):=
 ((d5 k a1 k (a0.1,a0.2.1,a0.2.2,([]:(List Int)),0)):Option ((List Int)×(List Int)×Int×Int)).bind λx1=>
 some (x1.1,(x1.2.1,x1.2.2.1,x1.2.2.2))
theorem ma(k:Nat)(a0:ba)(c:Nat)(a1:Int)(r:(List Int)×ba)(h:eK k a0 a1=some r):
 dG Tryz.prog 7 [Pt c,I a1] [.obj c 46 (.agg (.pair (.rep Tl a0.1) (.pair (I a0.2.1) (.eq (.int .u64 a0.2.2)))))] (λ_:Unit=>(bO [.rep Tl r.1],[.obj c 46 (.agg (.pair (.rep Tl r.2.1) (.pair (I r.2.2.1) (.eq (.int .u64 r.2.2.2)))))])):=by
 unfold eK at h
 replace h:=bp h
 refine dG.of 32 Tryz.func7 rfl Tryz.ntmps7 rfl λS w0=>?_
 refine sr ?_
 refine cq ?_
 refine nt ?_
 refine sr ?_
 refine cq ?_
 refine nt ?_
 refine aJ (Z:=Value) (α:=(List Int)×(List Int)×Int×Int) (λz2 x1=>[(5,.eq z2)]) (λz2 x1=>[.sl z2 3 Ti x1.1,.obj c 46 (.agg (.pair (.rep Tl x1.2.1) (.pair (I x1.2.2.1) (.eq (.int .u64 x1.2.2.2)))))]) h (λK h=>?_) (λz2 x1 h=>?_)
 .
  refine sr (cq (nt (ak ?_)));refine fL (SE.nil 3 Ti) ?_;refine aH (λz4 y3=>[(0,Pt c),(1,I a1),(5,.eq z4),(6,I y3.2.2.2.2)]) (λz4 y3=>[.obj c 46 (.agg (.pair (.rep Tl y3.1) (.pair (I y3.2.1) (.eq (.int .u64 y3.2.2.1))))),.sl z4 3 Ti y3.2.2.2.1]) (d5 k a1) k (.slice none 0 0) (a0.1,a0.2.1,a0.2.2,([]:(List Int)),0) (λ_=>rfl) h (SE.fin [1,0] ⟨rfl,rfl,rfl,rfl,trivial⟩ rfl) (λn z4 y3 h=>?_);unfold d5 at h;refine am (sr ?_);iterate 2 refine mq ?_
  refine jb (bG rfl) ?_;refine nt (ci h (λh=>?_) (λh=>?_))
  .refine sk (am (ak (sr ?_)));iterate 2 refine mq ?_
   obtain⟨r5,y,h⟩:=aa h;refine kb (aC [.tmp 13,.tmp 14] rfl rfl wq rfl (cO k (y3.1,y3.2.1,y3.2.2.1) c y3.2.2.2.2 r5 y)) ?_;refine aq (nt (sr ?_));iterate 2 refine mq ?_
   refine ja (bf (t:=Ti) [(.tmp 17,_)] [y3.2.2.2.2] rfl rfl dX (.cons rfl .int .nil) rfl rfl) ?_;obtain⟨u6,x,h⟩:=aa h;refine fr 1 ?_;refine dZ rfl rfl rfl (cu rfl rfl dX (au x)) ⟨rfl,rfl,trivial⟩ λv7=>?_;refine aq (nt (ab ?_));iterate 6 refine mq ?_
   obtain⟨x8,l,h⟩:=aa h;refine kb (bJ (t:=Ti) rfl ix cL l) ?_;refine ka (eR (i:=Int.toNat r5.1) (off:=0) rfl cL (λ_=>rfl) rfl (cP l).2.2 rfl) ?_;refine mq ?_;obtain⟨x9,j,h⟩:=aa h;refine kb (bJ (t:=Ti) rfl ix cL j) ?_;refine aP rfl rfl (fO (i:=Int.toNat y3.2.2.2.2) rfl cL rfl (mg j) rfl .int rfl) ⟨rfl,rfl,trivial⟩ ?_;obtain⟨D,e,h⟩:=aa h;refine kb (bJ (t:=Ti) rfl ix cL e) ?_;refine aP rfl rfl (fO (i:=Int.toNat r5.1) rfl cL rfl (mg e) rfl .int rfl) ⟨rfl,rfl,trivial⟩ ?_;refine aD (aR (tn (ab (mq ?_))));obtain⟨u,s,h⟩:=aa h;refine jb (bA rfl s) ?_;refine aq (nl ?_);exact jz (v7,(r5.2.1,r5.2.2.1,r5.2.2.2,List.set (List.set (y3.2.2.2.1++[y3.2.2.2.2]) (Int.toNat y3.2.2.2.2) x8) (Int.toNat r5.1) y3.2.2.2.2,u)) h [1,0]
  .refine xa ?_;exact jz (z4,(y3.2.2.2.1,y3.1,y3.2.1,y3.2.2.1)) h [1,0]
 .
  refine sr (mq ?_);refine aq (nt (aF ?_));refine bK (jk [4,5,31] ⟨rfl,rfl,rfl,trivial⟩) ?_;cases h;exact aQ () [_] 1 ⟨rfl,trivial⟩ rfl
def iq(k:Nat)(a0:ba)(a1:yC):Option (an×ba):=
 (ck (a1.1 - 1)).bind λx3=>
 (cE k (a0.1,a0.2.1,a0.2.2) x3).bind λr4=>
 (cE k (r4.2.1,r4.2.2.1,r4.2.2.2) (a1.2.2.2.2.1.length:Int)).bind λr5=>
 (eD k (r5.2.1,r5.2.2.1,r5.2.2.2) 2).bind λr6=>
 some ((r4.1,r5.1,r6.1),(r6.2.1,r6.2.2.1,r6.2.2.2))
theorem s6(k:Nat)(a0:ba)(c:Nat)(a1:yC)(r:an×ba)(h:iq k a0 a1=some r):
 dG Tryz.prog 16 [Pt c,.rep DD a1] [.obj c 46 (.agg (.pair (.rep Tl a0.1) (.pair (I a0.2.1) (.eq (.int .u64 a0.2.2)))))] (λ_:Unit=>(bO [.rep ah r.1],[.obj c 46 (.agg (.pair (.rep Tl r.2.1) (.pair (I r.2.2.1) (.eq (.int .u64 r.2.2.2)))))])):=by
 unfold iq at h
 replace h:=bp h
 refine dG.of 18 Tryz.func16 rfl Tryz.ntmps16 rfl λS w0=>?_
 refine sr ?_
 refine bx λb1=>?_
 refine aX rfl rfl rfl (bo rfl EY Na) trivial λb2=>?_
 refine nt ?_
 refine am ?_
 refine Gy [1,2,3,5,6,7,8,10,0,4,9,11,12,13] (by kernel_rfl) ?_
 refine bY rfl rfl rfl (aA rfl ge) ⟨rfl,trivial⟩ ?_
 refine il 1 rfl rfl rfl rfl (ax rfl cL nY rfl) ⟨rfl,trivial⟩ ?_
 obtain⟨x3,E,h⟩:=aa h
 refine bY rfl rfl rfl (eA rfl E) ⟨rfl,rfl,trivial⟩ ?_
 refine bY rfl rfl rfl (bL rfl) ⟨rfl,trivial⟩ ?_
 refine bY rfl rfl rfl (aA rfl cS) ⟨rfl,trivial⟩ ?_
 refine il 1 rfl rfl rfl rfl (ax rfl gG nY rfl) ⟨rfl,trivial⟩ ?_
 refine bY rfl rfl rfl (nP rfl rfl xw) ⟨rfl,trivial⟩ ?_
 refine bY rfl rfl rfl (bL rfl) ⟨rfl,trivial⟩ ?_
 refine bY rfl rfl rfl (bL rfl) ⟨rfl,trivial⟩ ?_
 refine vE 9 [true,true,true,false,false,false,false,false,true] [9,14] [1] [.obj b1 28 (.rep DD a1)] rfl (by kernel_rfl) (by kernel_rfl) (by kernel_rfl) d4 (λvs hv hB=>?_)
 obtain⟨w0,zz,rfl,D⟩:=aE hv
 obtain⟨w1,qt,rfl,y⟩:=aE D
 obtain⟨w2,mw,rfl,x⟩:=aE y
 obtain⟨w3,mt,rfl,u⟩:=aE x
 obtain⟨w4,mc,rfl,s⟩:=aE u
 obtain⟨w5,gw,rfl,n⟩:=aE s
 obtain⟨w6,Z,rfl,l⟩:=aE n
 obtain⟨w7,Y,rfl,j⟩:=aE l
 obtain⟨w8,X,rfl,e⟩:=aE j
 obtain rfl:=rI e
 refine⟨[1,0,2],[.obj b2 35 (.agg (.pair (I 0) (.pair (I 0) (.eq (.bool false))))),.obj c 46 (.agg (.pair (.rep Tl a0.1) (.pair (I a0.2.1) (.eq (.int .u64 a0.2.2)))))],by kernel_rfl,by decide,?_⟩
 obtain⟨r4,M,h⟩:=aa h
 have U:=cO k (a0.1,a0.2.1,a0.2.2) c x3 r4 M
 refine rX 1 rfl ?_
 refine vC rfl rfl rfl rfl (aC [.tmp 5,.tmp 8] rfl rfl wq rfl U) ⟨rfl,rfl,trivial⟩ (by kernel_rfl) ?_
 obtain⟨r5,J,h⟩:=aa h
 have Q:=cO k (r4.2.1,r4.2.2.1,r4.2.2.2) c (a1.2.2.2.2.1.length:Int) r5 J
 refine vC rfl rfl rfl rfl (aC [.tmp 10,.tmp 13] rfl rfl wq rfl Q) ⟨rfl,rfl,trivial⟩ (by kernel_rfl) ?_
 refine Qp (by kernel_rfl) ?_
 obtain⟨r6,F,h⟩:=aa h
 have O:=ia k (r5.2.1,r5.2.2.1,r5.2.2.2) c 2 r6 F
 refine fr 1 ?_
 refine kb (aC [.tmp 15,.const (.int .i64 (2))] rfl rfl MF rfl O) ?_
 refine jc (eo [(0,.tmp 9,_),(1,.tmp 14,_),(2,.tmp 16,_)] rfl Q3 EY Of (jM ⟨rfl,rfl,rfl,trivial⟩) rfl) ?_
 refine fr 2 ?_
 refine aP rfl rfl (aM rfl sw trivial rfl rfl) ⟨rfl,rfl,trivial⟩ ?_
 refine nt ?_
 refine aF ?_
 refine bK (ib (a:=.agg (.pair (I r4.1) (.pair (I r5.1) (.eq (.bool r6.1))))) (a':=.rep ah (r4.1,r5.1,r6.1)) (jD (.agg (.pair .int (.pair .int .bool))))) ?_
 refine bK (SE.fin (Γ':=[(4,_)]) [1,0,2] ⟨rfl,trivial⟩ rfl) ?_
 cases h
 exact aQ () [.rep ah (r4.1,r5.1,r6.1)] 1 ⟨⟨_,_,_,_,_,rfl,(.tail _ (.head _)),sw,(tP),rfl⟩,trivial⟩ rfl
def fF(k:Nat)(a1:Int):Nat->((List Int)×Int×Int×(List Int)×Int)->Option ((List Int)×(List Int)×Int×Int)
 |0,_=>none
 |n+1,y3=>
  if y3.2.2.2.2 < a1 then((((eD k (y3.1,y3.2.1,y3.2.2.1) 3).bind λr7=>
  if r7.1=true then((cM (bN (length y3.2.2.2.1+length [y3.2.2.2.2]))).bind λ_=>
  some (r7.2.1,r7.2.2.1,r7.2.2.2,y3.2.2.2.1++[y3.2.2.2.2])) else(some (r7.2.1,r7.2.2.1,r7.2.2.2,y3.2.2.2.1))):Option ((List Int)×Int×Int×(List Int))).bind λx5=>
  (ck (y3.2.2.2.2+1)).bind λc=>
  fF k a1 n (x5.1,x5.2.1,x5.2.2.1,x5.2.2.2,c)) else(some (y3.2.2.2.1,y3.1,y3.2.1,y3.2.2.1))
def iO(k:Nat)(a0:ba)(a1:Int):Option ((List Int)×ba):=
 ((fF k a1 k (a0.1,a0.2.1,a0.2.2,([]:(List Int)),0)):Option ((List Int)×(List Int)×Int×Int)).bind λx1=>
 some (x1.1,(x1.2.1,x1.2.2.1,x1.2.2.2))
theorem ve(k:Nat)(a0:ba)(c:Nat)(a1:Int)(r:(List Int)×ba)(h:iO k a0 a1=some r):
 dG Tryz.prog 6 [Pt c,I a1] [.obj c 46 (.agg (.pair (.rep Tl a0.1) (.pair (I a0.2.1) (.eq (.int .u64 a0.2.2)))))] (λ_:Unit=>(bO [.rep Tl r.1],[.obj c 46 (.agg (.pair (.rep Tl r.2.1) (.pair (I r.2.2.1) (.eq (.int .u64 r.2.2.2)))))])):=by
 unfold iO at h
 replace h:=bp h
 refine dG.of 19 Tryz.func6 rfl Tryz.ntmps6 rfl λS w0=>?_
 refine sr ?_
 refine cq ?_
 refine nt ?_
 refine sr ?_
 refine cq ?_
 refine nt ?_
 refine aJ (Z:=Value) (α:=(List Int)×(List Int)×Int×Int) (λz2 x1=>[(5,.eq z2)]) (λz2 x1=>[.sl z2 3 Ti x1.1,.obj c 46 (.agg (.pair (.rep Tl x1.2.1) (.pair (I x1.2.2.1) (.eq (.int .u64 x1.2.2.2)))))]) h (λK h=>?_) (λz2 x1 h=>?_)
 .
  refine sr (cq (nt (ak ?_)));refine fL (SE.nil 3 Ti) ?_;refine aH (λz4 y3=>[(0,Pt c),(1,I a1),(5,.eq z4),(6,I y3.2.2.2.2)]) (λz4 y3=>[.obj c 46 (.agg (.pair (.rep Tl y3.1) (.pair (I y3.2.1) (.eq (.int .u64 y3.2.2.1))))),.sl z4 3 Ti y3.2.2.2.1]) (fF k a1) k (.slice none 0 0) (a0.1,a0.2.1,a0.2.2,([]:(List Int)),0) (λ_=>rfl) h (SE.fin [1,0] ⟨rfl,rfl,rfl,rfl,trivial⟩ rfl) (λn z4 y3 h=>?_);unfold fF at h;refine am (sr ?_);iterate 2 refine mq ?_
  refine jb (bG rfl) ?_;refine nt (ci h (λh=>?_) (λh=>?_))
  .refine sk (aJ (Z:=Value) (α:=(List Int)×Int×Int×(List Int)) (λz6 x5=>[(0,Pt c),(1,I a1),(5,.eq z6),(6,I y3.2.2.2.2)]) (λz6 x5=>[.obj c 46 (.agg (.pair (.rep Tl x5.1) (.pair (I x5.2.1) (.eq (.int .u64 x5.2.2.1))))),.sl z6 3 Ti x5.2.2.2]) h (λK h=>?_) (λz6 x5 h=>?_))
   .refine ak (sr (mq ?_));obtain⟨r7,s,h⟩:=aa h;refine kb (aC [.tmp 12,.const (.int .i64 (3))] rfl rfl MF rfl (ia k (y3.1,y3.2.1,y3.2.2.1) c 3 r7 s)) ?_;refine nt (cv h (λh=>?_) (λh=>?_))
    .refine ab ?_;iterate 2 refine mq ?_
     refine ja (bf (t:=Ti) [(.tmp 15,_)] [y3.2.2.2.2] rfl rfl dX (.cons rfl .int .nil) rfl rfl) ?_;obtain⟨u8,l,h⟩:=aa h;refine fr 1 ?_;refine dZ rfl rfl rfl (cu rfl rfl dX (au l)) ⟨rfl,rfl,trivial⟩ λv9=>?_;refine aq (aD (bn ?_));exact jz (v9,(r7.2.1,r7.2.2.1,r7.2.2.2,y3.2.2.2.1++[y3.2.2.2.2])) h [1,0]
    .refine bj (bn ?_);exact jz (z4,(r7.2.1,r7.2.2.1,r7.2.2.2,y3.2.2.2.1)) h [0,1]
   .refine ab (mq ?_);obtain⟨j,e,h⟩:=aa h;refine jb (bA rfl e) ?_;refine aq (nl ?_);exact jz (z6,(x5.1,x5.2.1,x5.2.2.1,x5.2.2.2,j)) h [0,1]
  .refine xa ?_;exact jz (z4,(y3.2.2.2.1,y3.1,y3.2.1,y3.2.2.1)) h [1,0]
 .
  refine sr (mq ?_);refine aq (nt (aF ?_));refine bK (jk [4,5,18] ⟨rfl,rfl,rfl,trivial⟩) ?_;cases h;exact aQ () [_] 1 ⟨rfl,trivial⟩ rfl
def dQ(k:Nat)(a0:ae):Nat->((List (List (List Int)))×Int)->Option (List (List (List Int)))
 |0,_=>none
 |n+1,y9=>
  if y9.2 < (a0.2.2.2.2.1.length:Int) then((aG a0.2.2.2.2.1 y9.2).bind λh=>
  (eE k h).bind λc=>
  (cM (bN (length y9.1+length [c]))).bind λ_=>
  (ck (y9.2+1)).bind λe=>
  dQ k a0 n (y9.1++[c],e)) else(some y9.1)
def ir(k:Nat)(a0:ae):Option ae:=
 (cM (bN (length ([]:(List an))+length a0.2.2.2.2.2))).bind λ_=>
 ((dQ k a0 k (([]:(List (List (List Int)))),0)):Option ((List (List (List Int))))).bind λx7=>
 some (a0.1,a0.2.1,a0.2.2.1,a0.2.2.2.1,x7,([]:(List an))++a0.2.2.2.2.2)
def gA(k:Nat)(a0:(List Int))(a1:Int):Nat->Int->Option (Except Int Unit)
 |0,_=>none
 |n+1,y3=>
  if y3 < (a0.length:Int) then((aG a0 y3).bind λx5=>
  if x5=a1 then(some (.error y3)) else((ck (y3+1)).bind λx6=>
  gA k a0 a1 n x6)) else(some (.ok ()))
def lD(k:Nat)(a0:(List Int))(a1:Int):Option Int:=
 bE (α:=Unit) (gA k a0 a1 k 0) (some) λ_=>
 some (-1:Int)
theorem xb(k:Nat)(a0:(List Int))(a1:Int)(r:Int)(h:lD k a0 a1=some r):
 dG Tryz.prog 9 [.rep Tl a0,I a1] [] (λ_:Unit=>(bO [I r],[])):=by
 unfold lD at h
 replace h:=bp h
 refine dG.of 19 Tryz.func9 rfl Tryz.ntmps9 rfl λS w0=>?_
 refine sr ?_
 refine cq ?_
 refine nt ?_
 refine dU (Z:=Unit) (α:=Unit) (λz2 x1=>[]) (λz2 x1=>[]) (λe=>e=r) h (λe h=>Option.some.inj h) (λK hR h=>?_) (λz2 x1 h=>?_)
 .
  refine sr (cq (nt (ak ?_)));refine aH (λz4 y3=>[(0,.rep Tl a0),(1,I a1),(5,I y3)]) (λz4 y3=>[]) (gA k a0 a1) k () 0 (λ_=>rfl) h (SE.fin [] ⟨rfl,rfl,rfl,trivial⟩ rfl) (λn z4 y3 h=>?_);unfold gA at h;refine am (sr ?_);iterate 2 refine mq ?_
  refine ol ix ?_;refine jb (bG rfl) ?_;refine nt (ci h (λh=>?_) (λh=>?_))
  .refine sk (am (ak (sr ?_)));iterate 2 refine mq ?_
   obtain⟨x5,j,h⟩:=aa h;refine jb (aU (t:=Ti) rfl ix cL j) ?_;refine ja (ay (t:=Ti) rfl cL rfl) ?_;refine mq ?_;refine jb (jN rfl) ?_;refine nt (ci h (λh=>?_) (λh=>?_))
   .refine sr (mq ?_);refine aq (nt (aF (br (bP (bM ?_)))));obtain rfl:=hR _ h;exact ra
   .refine bj (aR (tn (ab (mq ?_))));obtain⟨x6,c,h⟩:=aa h;refine jb (bA rfl c) ?_;refine aq (nl ?_);exact jz ((),x6) h []
  .refine xa ?_;exact jz ((),()) h []
 .
  refine sr (cq (nt (aF ?_)));cases h;exact ra
def dP(k:Nat)(a0:Int)(a1:Int)(a2:Int):Option Bool:=
 ((if a1≤a0 then(some (decide (a0≤a2))) else(some false)):Option (Bool)).bind λx1=>
 some x1
theorem dT(k:Nat)(a0:Int)(a1:Int)(a2:Int)(r:Bool)(h:dP k a0 a1 a2=some r):
 dG Tryz.prog 37 [I a0,I a1,I a2] [] (λ_:Unit=>(bO [.eq (.bool r)],[])):=by
 unfold dP at h
 replace h:=bp h
 refine dG.of 15 Tryz.func37 rfl Tryz.ntmps37 rfl λS w0=>?_
 refine sr ?_
 refine cq ?_
 refine nt ?_
 refine aJ (Z:=Unit) (α:=Bool) (λz2 x1=>[(6,.eq (.bool x1))]) (λz2 x1=>[]) h (λK h=>?_) (λz2 x1 h=>?_)
 .
  refine ab ?_;iterate 2 refine mq ?_
  refine jb (DO rfl) ?_;refine mq ?_;refine cU (s:=10) rfl (λhb=>?_) (λhb=>?_)
  .replace h:=fo (vI hb) h;refine gm ?_;refine gm ?_;refine gb (DO rfl) ?_;refine pt ?_;refine aq (nl ?_);exact jz ((),decide (a0≤a2)) h []
  .replace h:=di (vJ hb) h;iterate 3 refine gn ?_
   refine pf ?_;refine aq (nl ?_);exact jz ((),false) h []
 .
  refine aF ?_;cases h;exact ra
def f7(k:Nat)(a0:Int)(a1:Int):Option Int:=
 (cM (0≤a1)).bind λ_=>
 some (D8 .u8 a0 (oO .u8 1 a1))
theorem ku(k:Nat)(a0:Int)(a1:Int)(r:Int)(h:f7 k a0 a1=some r):
 dG Tryz.prog 38 [.eq (.int .u8 a0),I a1] [] (λ_:Unit=>(bO [.eq (.int .u8 r)],[])):=by
 unfold f7 at h
 replace h:=bp h
 refine dG.of 9 Tryz.func38 rfl Tryz.ntmps38 rfl λS w0=>?_
 refine sr ?_
 refine cq ?_
 refine nt ?_
 refine sr ?_
 iterate 2 refine mq ?_
 obtain⟨u1,c,h⟩:=aa h
 refine jb (N5 rfl (au c)) ?_
 refine jb (TU rfl) ?_
 refine aq ?_
 refine nt ?_
 refine aF ?_
 cases h
 exact ra
def eZ(k:Nat)(a0:Int)(a1:Int):Option Bool:=
 (cM (0≤a1)).bind λ_=>
 some (decide ((qD .u8 (iu .u8 a0 a1) 1)=1))
theorem gW(k:Nat)(a0:Int)(a1:Int)(r:Bool)(h:eZ k a0 a1=some r):
 dG Tryz.prog 47 [.eq (.int .u8 a0),I a1] [] (λ_:Unit=>(bO [.eq (.bool r)],[])):=by
 unfold eZ at h
 replace h:=bp h
 refine dG.of 10 Tryz.func47 rfl Tryz.ntmps47 rfl λS w0=>?_
 refine sr ?_
 refine cq ?_
 refine nt ?_
 refine sr ?_
 iterate 2 refine mq ?_
 obtain⟨u1,c,h⟩:=aa h
 refine jb (uS rfl (au c)) ?_
 refine jb (Rf rfl) ?_
 refine jb (jN rfl) ?_
 refine aq ?_
 refine nt ?_
 refine aF ?_
 cases h
 exact ra
def dj(k:Nat)(a0:ae)(x8:(List Int)):Nat->(Int×Int)->Option (Except Int Int)
 |0,_=>none
 |n+1,y9=>
  if y9.2 < (x8.length:Int) then((aG x8 y9.2).bind λc=>
  (ck (a0.1 - 1)).bind λh=>
  (dP k c 0 h).bind λr=>
  if¬(r=true) then(some (.error 3)) else((eZ k y9.1 c).bind λl=>
  if l=true then(some (.error 4)) else((f7 k y9.1 c).bind λj=>
  (ck (y9.2+1)).bind λe=>
  dj k a0 x8 n (j,e)))) else(some (.ok y9.1))
def dk(k:Nat)(a0:ae)(a1:(List (List Int))):Nat->(Int×Int)->Option (Except Int Unit)
 |0,_=>none
 |n+1,y4=>
  if y4.2 < (a1.length:Int) then(bE (α:=Int) ((aG a1 y4.2).bind λx8=>
  dj k a0 x8 k (y4.1,0)) (λe=>some (.error e)) λx6=>
  (ck (y4.2+1)).bind λc=>
  dk k a0 a1 n (x6,c)) else(some (.ok ()))
def jd(k:Nat)(a0:ae)(a1:(List (List Int))):Option Int:=
 if 3 < (a1.length:Int) then(some 6) else(bE (α:=Unit) (dk k a0 a1 k (0,0)) (some) λ_=>
 some 0)
theorem t8(k:Nat)(a0:ae)(a1:(List (List Int)))(r:Int)(h:jd k a0 a1=some r):
 dG Tryz.prog 62 [.rep ap a0,.rep (.slice Tl) a1] [] (λ_:Unit=>(bO [I r],[])):=by
 unfold jd at h
 replace h:=bp h
 refine dG.of 39 Tryz.func62 rfl Tryz.ntmps62 rfl λS w0=>?_
 refine sr ?_
 refine bx λb1=>?_
 refine cq ?_
 refine nt ?_
 refine am ?_
 refine sr ?_
 refine mq ?_
 refine ol qP ?_
 refine jb (oG rfl) ?_
 refine nt ?_
 refine ci h (λh=>?_) (λh=>?_)
 .
  refine sr (cq (nt (rx ?_)));cases h;exact ra
 .
  refine sk (sr (cq (nt ?_)));refine dU (Z:=Unit) (α:=Unit) (λz3 x2=>[]) (λz3 x2=>[]) (λe=>e=r) h (λe h=>Option.some.inj h) (λK hR h=>?_) (λz3 x2 h=>?_)
  .refine sr (mq ?_);refine ol qP ?_;refine fy rfl ?_;refine nt (ak (aH (λz5 y4=>[(2,Pt b1),(5,.eq (.int .u8 y4.1)),(13,.rep (.slice Tl) a1),(14,I (a1.length:Int)),(15,I y4.2)]) (λz5 y4=>[.obj b1 28 (.rep ap a0)]) (dk k a0 a1) k () (0,0) (λ_=>rfl) h (SE.fin [0] ⟨rfl,rfl,rfl,rfl,rfl,trivial⟩ rfl) (λn z5 y4 h=>?_)));unfold dk at h;refine sr (jb (bG rfl) ?_);refine nt (am (ci h (λh=>?_) (λh=>?_)))
   .refine sk (dU (Z:=Unit) (α:=Int) (λz7 x6=>[(2,Pt b1),(5,.eq (.int .u8 x6)),(13,.rep (.slice Tl) a1),(14,I (a1.length:Int)),(15,I y4.2)]) (λz7 x6=>[.obj b1 28 (.rep ap a0)]) (λe=>e=r) h (λe h=>hR e h) (λK hR h=>?_) (λz7 x6 h=>?_))
    .refine ak (sr ?_);obtain⟨x8,X,h⟩:=aa h;refine jb (aU (t:=Tl) rfl qP ii X) ?_;refine ja (ay (t:=Tl) rfl ii rfl) ?_;refine aq (nt (sr ?_));refine mq ?_;refine ol ix ?_;refine fy rfl ?_;refine nt (ak (aH (λj y9=>[(2,Pt b1),(5,.eq (.int .u8 y9.1)),(13,.rep (.slice Tl) a1),(14,I (a1.length:Int)),(15,I y4.2),(19,.rep Tl x8),(20,I (x8.length:Int)),(21,I y9.2)]) (λj y9=>[.obj b1 28 (.rep ap a0)]) (dj k a0 x8) k () (y4.1,0) (λ_=>rfl) h (SE.fin [0] ⟨rfl,rfl,rfl,rfl,rfl,rfl,rfl,rfl,trivial⟩ rfl) (λn j y9 h=>?_)));unfold dj at h;refine sr (jb (bG rfl) ?_);refine nt (am (ci h (λh=>?_) (λh=>?_)))
     .refine sk (am (ak (sr ?_)));obtain⟨c,y,h⟩:=aa h;refine jb (aU (t:=Ti) rfl ix cL y) ?_;refine ja (ay (t:=Ti) rfl cL rfl) ?_;refine aq (nt (am (sr ?_)));refine mq ?_;refine fl ge ?_;refine lo cL ?_;obtain⟨O,x,h⟩:=aa h;refine jb (eA rfl x) ?_;obtain⟨U,F,h⟩:=aa h;refine jc (aC [.tmp 25,.const (.int .i64 (0)),.tmp 28] rfl rfl yA rfl (dT k c 0 O U F)) ?_;refine ja (iY rfl) ?_;refine nt (cw h (λh=>?_) (λh=>?_))
      .refine sr (cq (nt (rx (br (bP (br (bP (bM ?_))))))));obtain rfl:=hR _ h;exact ra
      .refine sk (am (sr ?_));iterate 2 refine mq ?_
       obtain⟨Q,E,h⟩:=aa h;refine jb (aC [.tmp 31,.tmp 32] rfl rfl Jc rfl (gW k y9.1 c Q E)) ?_;refine nt (cv h (λh=>?_) (λh=>?_))
       .refine sr (cq (nt (rx (br (bP (br (bP (bM ?_))))))));obtain rfl:=hR _ h;exact ra
       .refine sk (ab ?_);iterate 2 refine mq ?_
        obtain⟨l,D,h⟩:=aa h;refine jb (aC [.tmp 34,.tmp 35] rfl rfl PY rfl (ku k y9.1 c l D)) ?_;refine aq (aD (aR (tn (ab ?_))));obtain⟨M,u,h⟩:=aa h;refine jb (bA rfl u) ?_;refine mq (nl ?_);exact jz ((),(l,M)) h [0]
     .refine eO (bi (bi (cT (bn ?_))));exact jz ((),y9.1) h [0]
    .refine ab ?_;obtain⟨J,s,h⟩:=aa h;refine jb (bA rfl s) ?_;refine mq (nl ?_);exact jz ((),(x6,J)) h [0]
   .refine xa ?_;exact jz ((),()) h []
  .refine sr (cq (nt (aF ?_)));cases h;exact ra
def gp(k:Nat)(a0:ae)(a1:an):Option Int:=
 (((ck (a0.1 - 1)).bind λx5=>
 (dP k a1.1 0 x5).bind λr6=>
 if¬(r6=true) then(some true) else((dP k a1.2.1 0 (a0.2.2.2.2.1.length:Int)).bind λr7=>
 some (!r7))):Option (Bool)).bind λx3=>
 if x3=true then(some 3) else(some 0)
theorem qy(k:Nat)(a0:ae)(a1:an)(r:Int)(h:gp k a0 a1=some r):
 dG Tryz.prog 63 [.rep ap a0,.rep ah a1] [] (λ_:Unit=>(bO [I r],[])):=by
 unfold gp at h
 replace h:=bp h
 refine dG.of 21 Tryz.func63 rfl Tryz.ntmps63 rfl λS w0=>?_
 refine sr ?_
 refine bx λb1=>?_
 refine bx λb2=>?_
 refine cq ?_
 refine nt ?_
 refine am ?_
 refine aJ (Z:=Unit) (α:=Bool) (λz4 x3=>[(20,.eq (.bool x3))]) (λz4 x3=>[]) h (λK h=>?_) (λz4 x3 h=>?_)
 .
  refine ab (fl yw ?_);refine lo cL ?_;refine fl ge ?_;refine fr 1 ?_;refine lo cL ?_;obtain⟨x5,c,h⟩:=aa h;refine jb (eA rfl c) ?_;obtain⟨r6,j,h⟩:=aa h;refine jc (aC [.tmp 6,.const (.int .i64 (0)),.tmp 9] rfl rfl yA rfl (dT k a1.1 0 x5 r6 j)) ?_;refine ja (iY rfl) ?_;refine mq ?_;refine cU (s:=12) rfl (λhb=>?_) (λhb=>?_)
  .replace h:=fo (zR hb) h;iterate 7 refine gn ?_
   refine pt (nl ?_);exact jz ((),true) h []
  .replace h:=di (tL hb) h;refine ga (aA rfl I5) ?_;refine fr 1 ?_;refine nL rfl rfl rfl rfl rfl rfl (ax rfl cL nY rfl) ⟨rfl,trivial⟩ ?_;refine ga (aA rfl cS) ?_;refine fr 1 ?_;refine nL rfl rfl rfl rfl rfl rfl (ax rfl gG nY rfl) ⟨rfl,trivial⟩ ?_;refine ga (nP rfl rfl xw) ?_;obtain⟨r7,e,h⟩:=aa h;refine gc (aC [.tmp 14,.const (.int .i64 (0)),.tmp 17] rfl rfl yA rfl (dT k a1.2.1 0 (a0.2.2.2.2.1.length:Int) r7 e)) ?_;refine ga (iY rfl) ?_;refine pf (nl ?_);exact jz ((), !r7) h []
 .
  refine cv h (λh=>?_) (λh=>?_)
  .refine sr (cq (nt (rx ?_)));cases h;exact ra
  .refine sk (sr (cq (nt (aF ?_))));cases h;exact ra
def fh(k:Nat)(a0:ae):Nat->Int->Option (Except Int Unit)
 |0,_=>none
 |n+1,c=>
  if c < (a0.2.2.2.2.1.length:Int) then((aG a0.2.2.2.2.1 c).bind λj=>
  (jd k a0 j).bind λe=>
  if¬(e=0) then(some (.error e)) else((ck (c+1)).bind λh=>
  fh k a0 n h)) else(some (.ok ()))
def fg(k:Nat)(a0:ae):Nat->Int->Option (Except Int Unit)
 |0,_=>none
 |n+1,c=>
  if c < (a0.2.2.2.2.2.length:Int) then((aG a0.2.2.2.2.2 c).bind λj=>
  (gp k a0 j).bind λe=>
  if¬(e=0) then(some (.error e)) else((ck (c+1)).bind λh=>
  fg k a0 n h)) else(some (.ok ()))
def mZ(k:Nat)(a0:ae):Option Int:=
 (((dP k a0.1 1 5).bind λr4=>
 if¬(r4=true) then(some true) else((dP k a0.2.1 0 3).bind λr5=>
 if¬(r5=true) then(some true) else((dP k a0.2.2.1 0 3).bind λr6=>
 if¬(r6=true) then(some true) else((dP k a0.2.2.2.1 1 3).bind λr7=>
 some (!r7))))):Option (Bool)).bind λx2=>
 if x2=true then(some 1) else(if(a0.2.2.2.2.1.length:Int) < 1 then(some 7) else(if 6 < (a0.2.2.2.2.1.length:Int) then(some 6) else(bE (α:=Unit) (fh k a0 k 0) (some) λ_=>
 if 8 < (a0.2.2.2.2.2.length:Int) then(some 6) else(bE (α:=Unit) (fg k a0 k 0) (some) λ_=>
 some 0))))
theorem yk(k:Nat)(a0:ae)(r:Int)(h:mZ k a0=some r):
 dG Tryz.prog 36 [.rep ap a0] [] (λ_:Unit=>(bO [I r],[])):=by
 unfold mZ at h
 replace h:=bp h
 refine dG.of 73 Tryz.func36 rfl Tryz.ntmps36 rfl λS w0=>?_
 refine sr ?_
 refine bx λb1=>?_
 refine cq ?_
 refine nt ?_
 refine am ?_
 refine aJ (Z:=Unit) (α:=Bool) (λz3 x2=>[(1,Pt b1),(31,.eq (.bool x2))]) (λz3 x2=>[.obj b1 28 (.rep ap a0)]) h (λK h=>?_) (λz3 x2 h=>?_)
 .
  refine ab (fl ge ?_);refine lo cL ?_;obtain⟨r4,zz,h⟩:=aa h;refine jc (aC [.tmp 11,.const (.int .i64 (1)),.const (.int .i64 (5))] rfl rfl yA rfl (dT k a0.1 1 5 r4 zz)) ?_;refine ja (iY rfl) ?_;refine mq ?_;refine cU (s:=14) rfl (λhb=>?_) (λhb=>?_)
  .replace h:=fo (zR hb) h;iterate 4 refine gn ?_
   refine pt ?_;refine mq ?_;iterate 4 refine gn ?_
   refine pt ?_;refine mq ?_;iterate 4 refine gn ?_
   refine pt (nl ?_);exact jz ((),true) h [0]
  .replace h:=di (tL hb) h;refine ga (aA rfl CO) ?_;refine nL rfl rfl rfl rfl rfl rfl (ax rfl cL nY rfl) ⟨rfl,trivial⟩ ?_;obtain⟨r5,qt,h⟩:=aa h;refine gc (aC [.tmp 16,.const (.int .i64 (0)),.const (.int .i64 (3))] rfl rfl yA rfl (dT k a0.2.1 0 3 r5 qt)) ?_;refine ga (iY rfl) ?_;refine pf ?_;refine mq ?_;refine cU (s:=20) rfl (λhb=>?_) (λhb=>?_)
   .replace h:=fo (zR hb) h;iterate 4 refine gn ?_
    refine pt ?_;refine mq ?_;iterate 4 refine gn ?_
    refine pt (nl ?_);exact jz ((),true) h [0]
   .replace h:=di (tL hb) h;refine ga (aA rfl CN) ?_;refine nL rfl rfl rfl rfl rfl rfl (ax rfl cL nY rfl) ⟨rfl,trivial⟩ ?_;obtain⟨r6,mw,h⟩:=aa h;refine gc (aC [.tmp 22,.const (.int .i64 (0)),.const (.int .i64 (3))] rfl rfl yA rfl (dT k a0.2.2.1 0 3 r6 mw)) ?_;refine ga (iY rfl) ?_;refine pf ?_;refine mq ?_;refine cU (s:=26) rfl (λhb=>?_) (λhb=>?_)
    .replace h:=fo (zR hb) h;iterate 4 refine gn ?_
     refine pt (nl ?_);exact jz ((),true) h [0]
    .replace h:=di (tL hb) h;refine ga (aA rfl I6) ?_;refine nL rfl rfl rfl rfl rfl rfl (ax rfl cL nY rfl) ⟨rfl,trivial⟩ ?_;obtain⟨r7,mt,h⟩:=aa h;refine gc (aC [.tmp 28,.const (.int .i64 (1)),.const (.int .i64 (3))] rfl rfl yA rfl (dT k a0.2.2.2.1 1 3 r7 mt)) ?_;refine ga (iY rfl) ?_;refine pf (nl ?_);exact jz ((), !r7) h [0]
 .
  refine cv h (λh=>?_) (λh=>?_)
  .refine sr (cq (nt (rx ?_)));cases h;exact ra
  .refine sk (am (sr (fl cS ?_)));refine lo gG ?_;refine ol xw ?_;refine aq (nt (ak (sr ?_)));refine mq ?_;refine jb (bG rfl) ?_;refine aq (nt ?_);refine ci h (λh=>?_) (λh=>?_)
   .refine sr (cq (nt (aF (bP (bM ?_)))));cases h;exact ra
   .refine sr (mq ?_);refine jb (oG rfl) ?_;refine aq (nt ?_);refine ci h (λh=>?_) (λh=>?_)
    .refine sr (cq (nt (aF (bP (bM ?_)))));cases h;exact ra
    .refine bj (aR (tn (dU (Z:=Unit) (α:=Unit) (λz9 x8=>[(1,Pt b1)]) (λz9 x8=>[.obj b1 28 (.rep ap a0)]) (λe=>e=r) h (λe h=>Option.some.inj h) (λK hR h=>?_) (λz9 x8 h=>?_))))
     .refine sr (fl cS ?_);refine lo gG ?_;refine ol xw ?_;refine fy rfl ?_;refine nt (ak (aH (λx j=>[(1,Pt b1),(42,.rep (.slice (.slice Tl)) a0.2.2.2.2.1),(43,I (a0.2.2.2.2.1.length:Int)),(44,I j)]) (λx j=>[.obj b1 28 (.rep ap a0)]) (fh k a0) k () 0 (λ_=>rfl) h (SE.fin [0] ⟨rfl,rfl,rfl,rfl,trivial⟩ rfl) (λn x j h=>?_)));unfold fh at h;refine sr (jb (bG rfl) ?_);refine nt (am (ci h (λh=>?_) (λh=>?_)))
      .refine sk (am (ak (sr ?_)));obtain⟨Y,J,h⟩:=aa h;refine jb (aU (t:=(.slice Tl)) rfl xw mP J) ?_;refine ja (ay (t:=(.slice Tl)) rfl mP rfl) ?_;refine aq (nt (sr ?_));refine lo gC ?_;refine mq ?_;obtain⟨mc,O,h⟩:=aa h;refine jb (aC [.tmp 48,.tmp 49] rfl rfl Uu rfl (t8 k a0 Y mc O)) ?_;refine aq (nt (sr ?_));refine mq ?_;refine jb (eX rfl) ?_;refine nt (cn h (λh=>?_) (λh=>?_))
       .refine sr (mq ?_);refine aq (nt (aF (br (bP (bM ?_)))));obtain rfl:=hR _ h;exact ra
       .refine bj (aR (tn (ab ?_)));obtain⟨X,F,h⟩:=aa h;refine jb (bA rfl F) ?_;refine mq (nl ?_);exact jz ((),X) h [0]
      .refine xa ?_;exact jz ((),()) h [0]
     .refine am (sr (fl mE ?_));refine lo vW ?_;refine ol Oj ?_;refine jb (oG rfl) ?_;refine nt (ci h (λh=>?_) (λh=>?_))
      .refine sr (cq (nt (rx ?_)));cases h;exact ra
      .refine sk (dU (Z:=Unit) (α:=Unit) (λu y=>[]) (λu y=>[]) (λe=>e=r) h (λe h=>Option.some.inj h) (λK hR h=>?_) (λu y h=>?_))
       .refine sr (fl mE ?_);refine lo vW ?_;refine ol Oj ?_;refine fy rfl ?_;refine nt (ak (aH (λl c=>[(1,Pt b1),(60,Rs ah a0.2.2.2.2.2),(61,I (a0.2.2.2.2.2.length:Int)),(62,I c)]) (λl c=>[.obj b1 28 (.rep ap a0)]) (fg k a0) k () 0 (λ_=>rfl) h (SE.fin [0] ⟨rfl,rfl,rfl,rfl,trivial⟩ rfl) (λn l c h=>?_)));unfold fg at h;refine sr (jb (bG rfl) ?_);refine nt (am (ci h (λh=>?_) (λh=>?_)))
        .refine sk (am (ak (sr ?_)));obtain⟨U,E,h⟩:=aa h;refine jb (aU (t:=ah) rfl Oj sw E) ?_;refine ja (ay (t:=ah) rfl sw rfl) ?_;refine aX rfl rfl rfl (bo rfl EY Na) trivial λVE=>?_;refine aP rfl rfl (aM rfl sw rfl rfl rfl) ⟨rfl,rfl,trivial⟩ ?_;refine nt (sr (fr 1 ?_));refine lo gC ?_;refine fr 1 ?_;refine lo sw ?_;obtain⟨gw,M,h⟩:=aa h;refine jb (aC [.tmp 66,.tmp 67] rfl rfl Ut rfl (qy k a0 U gw M)) ?_;refine aq (nt (sr ?_));refine mq ?_;refine jb (eX rfl) ?_;refine nt (cn h (λh=>?_) (λh=>?_))
         .refine sr (mq ?_);refine aq (nt (aF (br (bP (bM ?_)))));obtain rfl:=hR _ h;exact ra
         .refine bj (aR (tn (ab ?_)));obtain⟨Q,D,h⟩:=aa h;refine jb (bA rfl D) ?_;refine mq (nl ?_);exact jz ((),Q) h [1]
        .refine xa ?_;exact jz ((),()) h []
       .refine sr (cq (nt (aF ?_)));cases h;exact ra
def cJ(k:Nat)(a0:ae)(a1:Int):Nat->((List Int)×Int)->Option (List Int)
 |0,_=>none
 |n+1,y5=>
  if y5.2 < 5 then((((cM (0≤y5.2/\y5.2 < 5)).bind λ_=>
  (eZ k a1 y5.2).bind λe=>
  if e=true then((cM (0≤y5.2/\y5.2 < 5)).bind λ_=>
  some (List.set (List.set y5.1 (Int.toNat y5.2) (-1:Int)) (Int.toNat y5.2) a0.2.1)) else(some (List.set y5.1 (Int.toNat y5.2) (-1:Int)))):Option ((List Int))).bind λx7=>
  (ck (y5.2+1)).bind λc=>
  cJ k a0 a1 n (x7,c)) else(some y5.1)
def eT(k:Nat)(a0:ae)(a1:Int):Option (List Int):=
 ((cJ k a0 a1 k ([0,0,0,0,0],0)):Option ((List Int))).bind λx3=>
 some x3
theorem qs{M:Md Tryz.prog}{bm:Nat}{c0 c1 c2 c3 c4 c5:Value}(hK:Kn M bm 0 [c0,c1,c2,c3,c4,c5])(k:Nat)(a0:ae)(a1:Int)(r:(List Int))(h:eT k a0 a1=some r):
 cz M 43 [.rep (.mo (Pv bm) [c0,c1,c2,c3,c4,c5] ap) a0,.eq (.int .u8 a1)] [] (λ_:Unit=>(bO [.rep Tr r],[])):=by
 unfold eT at h
 replace h:=bp h
 refine cz.of 24 Tryz.func43 rfl Tryz.ntmps43 rfl λS w0=>?_
 refine sr ?_
 refine aX rfl rfl rfl (bo rfl Ks M9) trivial λb1=>?_
 refine nt ?_
 refine sr ?_
 refine aX rfl rfl rfl (bo rfl Ks M9) trivial λb2=>?_
 refine nt ?_
 refine aJ (Z:=Unit) (α:=(List Int)) (λz4 x3=>[(4,Pt b1),(5,Pt b2)]) (λz4 x3=>[.obj b1 56 (.rep Tr [0,0,0,0,0]),.obj b2 56 (.rep Tr x3)]) h (λK h=>?_) (λz4 x3 h=>?_)
 .
  refine sr (fy rfl ?_);refine nt (ak (aH (λz6 y5=>[(0,.rep (.mo (Pv bm) [c0,c1,c2,c3,c4,c5] ap) a0),(1,.eq (.int .u8 a1)),(4,Pt b1),(5,Pt b2),(7,I y5.2)]) (λz6 y5=>[.obj b1 56 (.rep Tr [0,0,0,0,0]),.obj b2 56 (.rep Tr y5.1)]) (cJ k a0 a1) k () ([0,0,0,0,0],0) (λ_=>rfl) h (SE.fin [1,0] ⟨rfl,rfl,rfl,rfl,rfl,trivial⟩ rfl) (λn z6 y5 h=>?_)));unfold cJ at h;refine sr (jb (bG rfl) ?_);refine nt (am (ci h (λh=>?_) (λh=>?_)))
  .refine sk (aJ (Z:=Unit) (α:=(List Int)) (λz8 x7=>[(0,.rep (.mo (Pv bm) [c0,c1,c2,c3,c4,c5] ap) a0),(1,.eq (.int .u8 a1)),(4,Pt b1),(5,Pt b2),(7,I y5.2)]) (λz8 x7=>[.obj b1 56 (.rep Tr [0,0,0,0,0]),.obj b2 56 (.rep Tr x7)]) h (λK h=>?_) (λz8 x7 h=>?_))
   .refine ak (sr (mq ?_));refine aq (nt (sr ?_));refine mq ?_;obtain⟨u9,e,h⟩:=aa h;refine jb (dY rfl Dj cL (au e).1 (au e).2) ?_;refine fr 1 ?_;refine aP rfl rfl (gU (t:=Ti) (off:=0) (i:=y5.2) (N:=5) rfl cL .int rfl rfl rfl rfl (au e).1 (au e).2 rfl) ⟨rfl,rfl,trivial⟩ ?_;refine nt (sr ?_);iterate 2 refine mq ?_
    obtain⟨u,l,h⟩:=aa h;refine jb (aC [.tmp 12,.tmp 13] rfl rfl Jc rfl (gW k a1 y5.2 u l)) ?_;refine nt (cv h (λh=>?_) (λh=>?_))
    .refine ab ?_;iterate 2 refine mq ?_
     refine ja (lr rfl) ?_;refine ja (gV rfl jx) ?_;refine ja (iI 1 false rfl CO rfl rfl) ?_;refine ja (jr (t:=Ti) rfl cL (hK.sub 1 1 rfl (le_of_ble_eq_true rfl)) rfl rfl) ?_;obtain⟨x,c,h⟩:=aa h;refine jb (dY rfl Dj cL (au c).1 (au c).2) ?_;refine aP rfl rfl (gU (t:=Ti) (off:=0) (i:=y5.2) (N:=5) rfl cL .int rfl rfl rfl rfl (au c).1 (au c).2 rfl) ⟨rfl,rfl,trivial⟩ ?_;refine aD (bn ?_);exact jz ((),List.set (List.set y5.1 (Int.toNat y5.2) (-1:Int)) (Int.toNat y5.2) a0.2.1) h [1,0]
    .refine bj (bn ?_);exact jz ((),List.set y5.1 (Int.toNat y5.2) (-1:Int)) h [1,0]
   .refine ab ?_;obtain⟨s,j,h⟩:=aa h;refine jb (bA rfl j) ?_;refine mq (nl ?_);exact jz ((),(x7,s)) h [0,1]
  .refine xa ?_;exact jz ((),y5.1) h [0,1]
 .
  refine sr (fr 1 ?_);refine lo jm ?_;refine fr 1 ?_;refine aP rfl rfl (aM rfl jm rfl rfl rfl) ⟨rfl,rfl,trivial⟩ ?_;refine nt (aF ?_);obtain rfl:=Option.some.inj h;exact aQ () [.rep Tr x3] 0 ⟨⟨_,_,_,_,_,rfl,(.head _),jm,(tP),rfl⟩,trivial⟩ rfl
def dr(k:Nat)(a0:(List Int))(a1:Int):Nat->Int->Option (Except Int Unit)
 |0,_=>none
 |n+1,y3=>
  if y3 < (a0.length:Int) then((aG a0 y3).bind λx5=>
  if a1=x5 then(some (.error y3)) else((ck (y3+1)).bind λx6=>
  dr k a0 a1 n x6)) else(some (.ok ()))
def gu(k:Nat)(a0:(List Int))(a1:Int):Option Int:=
 bE (α:=Unit) (dr k a0 a1 k 0) (some) λ_=>
 some (-1:Int)
theorem mR(k:Nat)(a0:(List Int))(a1:Int)(r:Int)(h:gu k a0 a1=some r):
 dG Tryz.prog 55 [.rep Tl a0,I a1] [] (λ_:Unit=>(bO [I r],[])):=by
 unfold gu at h
 replace h:=bp h
 refine dG.of 19 Tryz.func55 rfl Tryz.ntmps55 rfl λS w0=>?_
 refine sr ?_
 refine cq ?_
 refine nt ?_
 refine dU (Z:=Unit) (α:=Unit) (λz2 x1=>[]) (λz2 x1=>[]) (λe=>e=r) h (λe h=>Option.some.inj h) (λK hR h=>?_) (λz2 x1 h=>?_)
 .
  refine sr (mq ?_);refine ol ix ?_;refine fy rfl ?_;refine nt (ak (aH (λz4 y3=>[(0,.rep Tl a0),(1,I a1),(7,I (a0.length:Int)),(8,I y3)]) (λz4 y3=>[]) (dr k a0 a1) k () 0 (λ_=>rfl) h (SE.fin [] ⟨rfl,rfl,rfl,rfl,trivial⟩ rfl) (λn z4 y3 h=>?_)));unfold dr at h;refine sr (jb (bG rfl) ?_);refine nt (am (ci h (λh=>?_) (λh=>?_)))
  .refine sk (am (ak (sr (mq ?_))));refine aq (nt (sr ?_));iterate 3 refine mq ?_
   obtain⟨x5,j,h⟩:=aa h;refine jb (aU (t:=Ti) rfl ix cL j) ?_;refine ja (ay (t:=Ti) rfl cL rfl) ?_;refine jb (jN rfl) ?_;refine nt (ci h (λh=>?_) (λh=>?_))
   .refine sr (mq ?_);refine aq (nt (aF (br (bP (bM ?_)))));obtain rfl:=hR _ h;exact ra
   .refine bj (aR (tn (ab ?_)));obtain⟨x6,c,h⟩:=aa h;refine jb (bA rfl c) ?_;refine mq (nl ?_);exact jz ((),x6) h []
  .refine xa ?_;exact jz ((),()) h []
 .
  refine sr (cq (nt (aF ?_)));cases h;exact ra
def kW(k:Nat)(a0:Int):Option Bool:=
 some (!decide (a0=a0))
theorem rS(k:Nat)(a0:Int)(r:Bool)(h:kW k a0=some r):
 dG Tryz.prog 132 [I a0] [] (λ_:Unit=>(bO [.eq (.bool r)],[])):=by
 unfold kW at h
 replace h:=bp h
 refine dG.of 6 Tryz.func132 rfl Tryz.ntmps132 rfl λS w0=>?_
 refine sr ?_
 refine cq ?_
 refine nt ?_
 refine sr ?_
 iterate 2 refine mq ?_
 refine jb (eX rfl) ?_
 refine aq ?_
 refine nt ?_
 refine aF ?_
 cases h
 exact ra
def oU(k:Nat)(a0:Int)(a1:Int):Option Bool:=
 (((kW k a0).bind λr3=>
 if r3=true then((kW k a1).bind λr4=>
 if¬(r4=true) then(some true) else(some (decide (a0 < a1)))) else(some (decide (a0 < a1)))):Option (Bool)).bind λx1=>
 some x1
theorem AK(k:Nat)(a0:Int)(a1:Int)(r:Bool)(h:oU k a0 a1=some r):
 dG Tryz.prog 122 [I a0,I a1] [] (λ_:Unit=>(bO [.eq (.bool r)],[])):=by
 unfold oU at h
 replace h:=bp h
 refine dG.of 17 Tryz.func122 rfl Tryz.ntmps122 rfl λS w0=>?_
 refine sr ?_
 refine cq ?_
 refine nt ?_
 refine aJ (Z:=Unit) (α:=Bool) (λz2 x1=>[(4,.eq (.bool x1))]) (λz2 x1=>[]) h (λK h=>?_) (λz2 x1 h=>?_)
 .
  refine ab (mq ?_);obtain⟨r3,e,h⟩:=aa h;refine ja (aC [.tmp 5] rfl rfl N8 rfl (rS k a0 r3 e)) ?_;refine mq ?_;refine cU (s:=7) rfl (λhb=>?_) (λhb=>?_)
  .replace h:=fo (OG hb) h;refine gm ?_;obtain⟨r4,c,h⟩:=aa h;refine ga (aC [.tmp 8] rfl rfl N8 rfl (rS k a1 r4 c)) ?_;refine ga (iY rfl) ?_;refine pt ?_;refine mq ?_;refine cU (s:=12) rfl (λhb=>?_) (λhb=>?_)
   .replace h:=fo (zR hb) h;iterate 3 refine gn ?_
    refine pt ?_;refine aq (nl ?_);exact jz ((),true) h []
   .replace h:=di (tL hb) h;refine gm ?_;refine gm ?_;refine gb (bG rfl) ?_;refine pf ?_;refine aq (nl ?_);exact jz ((),decide (a0 < a1)) h []
  .replace h:=di (OH hb) h;iterate 3 refine gn ?_
   refine pf ?_;refine mq ?_;refine gm ?_;refine gm ?_;refine gb (bG rfl) ?_;refine pf ?_;refine aq (nl ?_);exact jz ((),decide (a0 < a1)) h []
 .
  refine aF ?_;cases h;exact ra
def bH(k:Nat)(a1:Int):Nat->((List Int)×Int)->Option (List Int)
 |0,_=>none
 |n+1,y6=>
  ((if a1 < y6.2 then((aG y6.1 y6.2).bind λu=>
  (ck (y6.2 - 1)).bind λs=>
  (aG y6.1 s).bind λr=>
  (oU k u r).bind λx=>
  some x) else(some false)):Option (Bool)).bind λx8=>
  if x8=true then((ck (y6.2 - 1)).bind λe=>
  (ck (y6.2 - 1)).bind λl=>
  (aG y6.1 l).bind λc=>
  (aG y6.1 y6.2).bind λj=>
  (aG y6.1 y6.2).bind λD=>
  (aG (List.set y6.1 (Int.toNat y6.2) c) e).bind λy=>
  (ck (y6.2 - 1)).bind λh=>
  bH k a1 n (List.set (List.set y6.1 (Int.toNat y6.2) c) (Int.toNat e) j,h)) else(some y6.1)
def bg(k:Nat)(a1:Int)(a2:Int):Nat->((List Int)×Int)->Option (List Int)
 |0,_=>none
 |n+1,y2=>
  if y2.2 < a2 then(((bH k a1 k (y2.1,y2.2)):Option ((List Int))).bind λx4=>
  (ck (y2.2+1)).bind λc=>
  bg k a1 a2 n (x4,c)) else(some y2.1)
def bZ(k:Nat)(a0:(List Int))(a1:Int)(a2:Int):Option (List Int):=
 (ck (a1+1)).bind λx1=>
 bg k a1 a2 k (a0,x1)
theorem jo(k:Nat)(a0:(List Int))(c:Value)(a1:Int)(a2:Int)(r:(List Int))(h:bZ k a0 a1 a2=some r):
 dG Tryz.prog 116 [.eq c,I a1,I a2] [.sl c 3 Ti a0] (λ_:Unit=>(bO [],[.sl c 3 Ti r])):=by
 unfold bZ at h
 replace h:=bp h
 refine dG.of 49 Tryz.func116 rfl Tryz.ntmps116 rfl λS w0=>?_
 refine sr ?_
 refine mq ?_
 obtain⟨x1,VT,h⟩:=aa h
 refine jb (bA rfl VT) ?_
 refine aq ?_
 refine nt ?_
 refine ak ?_
 refine aH (λz3 y2=>[(0,.eq c),(1,I a1),(2,I a2),(6,I y2.2)]) (λz3 y2=>[.sl c 3 Ti y2.1]) (bg k a1 a2) k () (a0,x1) (λ_=>rfl) h (SE.fin [0] ⟨rfl,rfl,rfl,rfl,trivial⟩ rfl) (λn z3 y2 h=>?_)
 unfold bg at h
 refine am ?_
 refine sr ?_
 iterate 2 refine mq ?_
 refine jb (bG rfl) ?_
 refine nt ?_
 refine ci h (λh=>?_) (λh=>?_)
 .
  refine sk (aJ (Z:=Unit) (α:=(List Int)) (λz5 x4=>[(0,.eq c),(1,I a1),(2,I a2),(6,I y2.2)]) (λz5 x4=>[.sl c 3 Ti x4]) h (λK h=>?_) (λz5 x4 h=>?_))
  .refine ak (sr (mq ?_));refine aq (nt (ak ?_));refine aH (λz7 y6=>[(0,.eq c),(1,I a1),(2,I a2),(6,I y2.2),(7,I y6.2)]) (λz7 y6=>[.sl c 3 Ti y6.1]) (bH k a1) k () (y2.1,y2.2) (λ_=>rfl) h (SE.fin [0] ⟨rfl,rfl,rfl,rfl,rfl,trivial⟩ rfl) (λn z7 y6 h=>?_);unfold bH at h;refine am (aJ (Z:=Unit) (α:=Bool) (λz9 x8=>[(0,.eq c),(1,I a1),(2,I a2),(6,I y2.2),(7,I y6.2),(30,.eq (.bool x8))]) (λz9 x8=>[.sl c 3 Ti y6.1]) h (λK h=>?_) (λz9 x8 h=>?_))
   .refine cN ?_;refine dm ?_;refine dm ?_;refine db (oG rfl) ?_;refine yW rfl rfl rfl (bL rfl) ⟨rfl,trivial⟩ (λhb=>?_) (λhb=>?_)
    .replace h:=fo (vI hb) h;refine ee rfl rfl rfl rfl rfl (bL rfl) ⟨rfl,rfl,trivial⟩ ?_;refine ee rfl rfl rfl rfl rfl (bL rfl) ⟨rfl,rfl,trivial⟩ ?_;obtain⟨VI,x,h⟩:=aa h;refine kQ 0 rfl rfl rfl rfl rfl rfl (bJ (t:=Ti) rfl ix cL x) ⟨rfl,rfl,rfl,trivial⟩ ?_;refine kQ 0 rfl rfl rfl rfl rfl rfl (eR (i:=Int.toNat y6.2) (off:=0) rfl cL (λ_=>rfl) rfl (cP x).2.2 rfl) ⟨rfl,rfl,trivial⟩ ?_;refine ee rfl rfl rfl rfl rfl (bL rfl) ⟨rfl,rfl,trivial⟩ ?_;refine ee rfl rfl rfl rfl rfl (bL rfl) ⟨rfl,rfl,trivial⟩ ?_;obtain⟨VH,mw,h⟩:=aa h;refine ee rfl rfl rfl rfl rfl (eA rfl mw) ⟨rfl,rfl,rfl,trivial⟩ ?_;obtain⟨VG,u,h⟩:=aa h;refine kQ 0 rfl rfl rfl rfl rfl rfl (bJ (t:=Ti) rfl ix cL u) ⟨rfl,rfl,rfl,trivial⟩ ?_;refine kQ 0 rfl rfl rfl rfl rfl rfl (eR (i:=Int.toNat VH) (off:=0) rfl cL (λ_=>rfl) rfl (cP u).2.2 rfl) ⟨rfl,rfl,trivial⟩ ?_;refine df d4 ?_;obtain⟨F,qt,h⟩:=aa h;refine gb (aC [.tmp 23,.tmp 28] rfl rfl Sz rfl (AK k VI VG F qt)) ?_;refine pt (nl ?_);exact jz ((),F) h [0]
    .replace h:=di (vJ hb) h;iterate 9 refine dg ?_
     refine df d4 ?_;refine gn ?_;refine pf (nl ?_);exact jz ((),false) h [0]
   .refine cv h (λh=>?_) (λh=>?_)
    .refine sk (am (ak (sa ?_)));refine bY rfl rfl rfl (bL rfl) ⟨rfl,trivial⟩ ?_;refine bY rfl rfl rfl (bL rfl) ⟨rfl,trivial⟩ ?_;refine bY rfl rfl rfl (bL rfl) ⟨rfl,trivial⟩ ?_;refine bY rfl rfl rfl (bL rfl) ⟨rfl,trivial⟩ ?_;obtain⟨y,mt,h⟩:=aa h;refine bY rfl rfl rfl (eA rfl mt) ⟨rfl,rfl,trivial⟩ ?_;refine bY rfl rfl rfl (bL rfl) ⟨rfl,trivial⟩ ?_;refine bY rfl rfl rfl (bL rfl) ⟨rfl,trivial⟩ ?_;obtain⟨VF,mc,h⟩:=aa h;refine bY rfl rfl rfl (eA rfl mc) ⟨rfl,rfl,trivial⟩ ?_;obtain⟨E,s,h⟩:=aa h;refine il 0 rfl rfl rfl rfl (bJ (t:=Ti) rfl ix cL s) ⟨rfl,rfl,trivial⟩ ?_;refine il 0 rfl rfl rfl rfl (eR (i:=Int.toNat VF) (off:=0) rfl cL (λ_=>rfl) rfl (cP s).2.2 rfl) ⟨rfl,trivial⟩ ?_;refine bY rfl rfl rfl (bL rfl) ⟨rfl,trivial⟩ ?_;refine bY rfl rfl rfl (bL rfl) ⟨rfl,trivial⟩ ?_;obtain⟨D,l,h⟩:=aa h;refine il 0 rfl rfl rfl rfl (bJ (t:=Ti) rfl ix cL l) ⟨rfl,rfl,trivial⟩ ?_;refine il 0 rfl rfl rfl rfl (eR (i:=Int.toNat y6.2) (off:=0) rfl cL (λ_=>rfl) rfl (cP l).2.2 rfl) ⟨rfl,trivial⟩ ?_;obtain⟨V3,j,h⟩:=aa h;refine il 0 rfl rfl rfl rfl (bJ (t:=Ti) rfl ix cL j) ⟨rfl,rfl,trivial⟩ ?_;refine vE 15 [true,true,false,false,false,true,true,true,true,true,true,true,true,true,true] [48] [] [] rfl (by kernel_rfl) (by kernel_rfl) (by kernel_rfl) d4 (λvs hv hB=>?_);obtain⟨w0,Wj,rfl,VS⟩:=aE hv;obtain⟨w1,Wi,rfl,VQ⟩:=aE VS;obtain⟨w2,Wh,rfl,VP⟩:=aE VQ;obtain⟨w3,Wg,rfl,VO⟩:=aE VP;obtain⟨w4,We,rfl,VN⟩:=aE VO;obtain⟨w5,Wc,rfl,VM⟩:=aE VN;obtain⟨w6,Wb,rfl,VL⟩:=aE VM;obtain⟨w7,Wa,rfl,VK⟩:=aE VL;obtain⟨w8,V9,rfl,VJ⟩:=aE VK;obtain⟨w9,V0,rfl,X⟩:=aE VJ;obtain⟨V8,VZ,rfl,U⟩:=aE X;obtain⟨V7,VY,rfl,Q⟩:=aE U;obtain⟨V6,VX,rfl,O⟩:=aE Q;obtain⟨V5,VV,rfl,M⟩:=aE O;obtain⟨V4,VU,rfl,J⟩:=aE M;obtain rfl:=rI J;refine⟨[0],[.sl c 3 Ti y6.1],by kernel_rfl,by decide,?_⟩;refine tH rfl rfl (fO (i:=Int.toNat y6.2) rfl cL rfl (mg j) rfl .int rfl) ⟨rfl,rfl,trivial⟩ (by kernel_rfl) ?_;obtain⟨V2,e,h⟩:=aa h;refine vC rfl rfl rfl rfl (bJ (t:=Ti) rfl ix cL e) ⟨rfl,rfl,trivial⟩ (by kernel_rfl) ?_;refine tH rfl rfl (fO (i:=Int.toNat y) rfl cL rfl (mg e) rfl .int rfl) ⟨rfl,rfl,trivial⟩ (by kernel_rfl) ?_;refine yR ?_;refine bK (SE.fin (Γ':=[(0,.eq c),(1,I a1),(2,I a2),(6,I y2.2),(7,I y6.2)]) (Δ':=[.sl c 3 Ti (List.set (List.set y6.1 (Int.toNat y6.2) E) (Int.toNat y) D)]) [0] ⟨rfl,rfl,rfl,rfl,rfl,trivial⟩ rfl) ?_;refine aR (tn (ab (mq ?_)));obtain⟨VE,gw,h⟩:=aa h;refine jb (eA rfl gw) ?_;refine aq (nl ?_);exact jz ((),(List.set (List.set y6.1 (Int.toNat y6.2) E) (Int.toNat y) D,VE)) h [0]
    .refine eO (bi (bi (cT (bn ?_))));exact jz ((),y6.1) h [0]
  .refine ab (mq ?_);obtain⟨zz,Y,h⟩:=aa h;refine jb (bA rfl Y) ?_;refine aq (nl ?_);exact jz ((),(x4,zz)) h [0]
 .
  refine eO (bi (bi (cT (j8 ?_))));cases h;exact aQ () [] 1 trivial rfl
def kx(k:Nat)(a0:Int):Option Int:=
 ((if 4294967296≤a0 then(some (iu .u64 a0 32,32)) else(some (a0,0))):Option (Int×Int)).bind λx1=>
 ((if 65536≤x1.1 then((ck (x1.2+16)).bind λx5=>
 some (iu .u64 x1.1 16,x5)) else(some (x1.1,x1.2))):Option (Int×Int)).bind λx3=>
 ((if 256≤x3.1 then((ck (x3.2+8)).bind λx8=>
 some (iu .u64 x3.1 8,x8)) else(some (x3.1,x3.2))):Option (Int×Int)).bind λx6=>
 (CH LV (IntKind.u8.wrap x6.1)).bind λx9=>
 (ck (x9.toNat:Int)).bind λe=>
 (ck (x6.2+e)).bind λc=>
 some c
theorem qC(k:Nat)(a0:Int)(r:Int)(h:kx k a0=some r):
 dG Tryz.prog 126 [.eq (.int .u64 a0)] [] (λ_:Unit=>(bO [I r],[])):=by
 unfold kx at h
 replace h:=bp h
 refine dG.of 25 Tryz.func126 rfl Tryz.ntmps126 rfl λS w0=>?_
 refine sr ?_
 refine cq ?_
 refine nt ?_
 refine aJ (Z:=Unit) (α:=Int×Int) (λz2 x1=>[(0,.eq (.int .u64 x1.1)),(2,I x1.2)]) (λz2 x1=>[]) h (λK h=>?_) (λz2 x1 h=>?_)
 .
  refine sr (mq ?_);refine jb (kC rfl) ?_;refine nt (ci h (λh=>?_) (λh=>?_))
  .refine sr (mq ?_);refine bh rfl (uS rfl (by decide)) ⟨rfl,rfl,trivial⟩ ?_;refine aq (nt (ab ?_));refine cq (nl ?_);exact jz ((),(iu .u64 a0 32,32)) h []
  .refine bj (ao ?_);exact jz ((),(a0,0)) h []
 .
  refine aJ (Z:=Unit) (α:=Int×Int) (λz4 x3=>[(0,.eq (.int .u64 x3.1)),(2,I x3.2)]) (λz4 x3=>[]) h (λK h=>?_) (λz4 x3 h=>?_)
  .refine sr (mq ?_);refine jb (kC rfl) ?_;refine nt (ci h (λh=>?_) (λh=>?_))
   .refine sr (mq ?_);refine bh rfl (uS rfl (by decide)) ⟨rfl,rfl,trivial⟩ ?_;refine aq (nt (ab ?_));refine mq ?_;obtain⟨x5,n,h⟩:=aa h;refine jb (bA rfl n) ?_;refine aq (nl ?_);exact jz ((),(iu .u64 x1.1 16,x5)) h []
   .refine bj (ao ?_);exact jz ((),(x1.1,x1.2)) h []
  .refine aJ (Z:=Unit) (α:=Int×Int) (λz7 x6=>[(0,.eq (.int .u64 x6.1)),(2,I x6.2)]) (λz7 x6=>[]) h (λK h=>?_) (λz7 x6 h=>?_)
   .refine sr (mq ?_);refine jb (kC rfl) ?_;refine nt (ci h (λh=>?_) (λh=>?_))
    .refine sr (mq ?_);refine bh rfl (uS rfl (by decide)) ⟨rfl,rfl,trivial⟩ ?_;refine aq (nt (ab ?_));refine mq ?_;obtain⟨x8,l,h⟩:=aa h;refine jb (bA rfl l) ?_;refine aq (nl ?_);exact jz ((),(iu .u64 x3.1 8,x8)) h []
    .refine bj (ao ?_);exact jz ((),(x3.1,x3.2)) h []
   .refine sr ?_;iterate 2 refine mq ?_
    refine ja (sJ rfl TA U5) ?_;obtain⟨x9,j,h⟩:=aa h;refine ja (zP rfl U9 j) ?_;obtain⟨u,e,h⟩:=aa h;refine ja (zQ rfl U5 U3 e) ?_;obtain⟨s,c,h⟩:=aa h;refine jb (bA rfl c) ?_;refine aq (nt (aF ?_));cases h;exact ra
def pE(k:Nat)(a0:Int):Option Int:=
 (kx k a0).bind λr1=>
 some r1
theorem C3(k:Nat)(a0:Int)(r:Int)(h:pE k a0=some r):
 dG Tryz.prog 115 [.eq (.int .u64 a0)] [] (λ_:Unit=>(bO [I r],[])):=by
 unfold pE at h
 replace h:=bp h
 refine dG.of 8 Tryz.func115 rfl Tryz.ntmps115 rfl λS w0=>?_
 refine sr ?_
 refine cq ?_
 refine nt ?_
 refine am ?_
 refine J0 (λhb=>(by cases hb)) (λhb=>?_)
 refine sk ?_
 refine sr ?_
 refine mq ?_
 obtain⟨r1,c,h⟩:=aa h
 have e:=qC k a0 r1 c
 refine ja (aC [.tmp 6] rfl rfl Sr rfl e) ?_
 refine aq ?_
 refine nt ?_
 refine aF ?_
 cases h
 exact ra
def cG(k:Nat)(a0:(List Int))(a1:Int)(a2:Int)(a3:Int):Nat->Unit->Option (List Int)
 |0,_=>none
 |n+1,y1=>
  (ck (a2 - a1)).bind λx3=>
  if x3≤12 then((bZ k a0 a1 a2).bind λr4=>
  some r4) else(if a3=0 then(none) else(none))
def c6(k:Nat)(a0:(List Int))(a1:Int)(a2:Int)(a3:Int):Option (List Int):=
 cG k a0 a1 a2 a3 k ()
theorem lO(k:Nat)(a0:(List Int))(c:Value)(a1:Int)(a2:Int)(a3:Int)(r:(List Int))(h:c6 k a0 a1 a2 a3=some r):
 dG Tryz.prog 114 [.eq c,I a1,I a2,I a3] [.sl c 3 Ti a0] (λ_:Unit=>(bO [],[.sl c 3 Ti r])):=by
 unfold c6 at h
 replace h:=bp h
 refine dG.of 134 Tryz.func114 rfl Tryz.ntmps114 rfl λS w0=>?_
 refine sr ?_
 refine cq ?_
 refine nt ?_
 refine sr ?_
 refine cq ?_
 refine nt ?_
 refine ak ?_
 refine aH (λz2 y1=>[(0,.eq c),(1,I a1),(2,I a2),(3,I a3),(8,.eq (.bool true)),(9,.eq (.bool true))]) (λz2 y1=>[.sl c 3 Ti a0]) (cG k a0 a1 a2 a3) k () () (λ_=>rfl) h (SE.fin [0] ⟨rfl,rfl,rfl,rfl,rfl,rfl,trivial⟩ rfl) (λn z2 y1 h=>?_)
 unfold cG at h
 refine ak ?_
 refine sr ?_
 iterate 2 refine mq ?_
 obtain⟨x3,e,h⟩:=aa h
 refine jb (eA rfl e) ?_
 refine aq ?_
 refine nt ?_
 refine am ?_
 refine sr ?_
 refine mq ?_
 refine jb (DO rfl) ?_
 refine nt ?_
 refine ci h (λh=>?_) (λh=>?_)
 .
  refine sr ?_;iterate 3 refine mq ?_
  obtain⟨r4,j,h⟩:=aa h;refine kc (aC [.tmp 24,.tmp 25,.tmp 26] rfl rfl SB rfl (jo k a0 c a1 a2 r4 j)) ?_;refine nt (rx (bP (bM (bP ?_))));cases h;exact aQ () [] 1 trivial rfl
 .
  refine sk (am (sr (mq ?_)));refine jb (jN rfl) ?_;refine nt (ci h (λh=>?_) (λh=>?_))
  .cases h
  .cases h
def fW(k:Nat)(a0:(List Int)):Option (List Int):=
 (pE k (IntKind.u64.wrap (a0.length:Int))).bind λr1=>
 (c6 k a0 0 (a0.length:Int) r1).bind λr2=>
 some r2
theorem t4(k:Nat)(a0:(List Int))(c:Value)(r:(List Int))(h:fW k a0=some r):
 dG Tryz.prog 101 [.eq c] [.sl c 3 Ti a0] (λ_:Unit=>(bO [],[.sl c 3 Ti r])):=by
 unfold fW at h
 replace h:=bp h
 refine dG.of 11 Tryz.func101 rfl Tryz.ntmps101 rfl λS w0=>?_
 refine sr ?_
 refine mq ?_
 refine ka (iL rfl rfl ix) ?_
 refine aq ?_
 refine nt ?_
 refine ab ?_
 iterate 3 refine mq ?_
 refine ja (sJ rfl U3 UV) ?_
 obtain⟨r1,j,h⟩:=aa h
 have n:=C3 k (IntKind.u64.wrap (a0.length:Int)) r1 j
 refine ja (aC [.tmp 8] rfl rfl SC rfl n) ?_
 obtain⟨r2,e,h⟩:=aa h
 have l:=lO k a0 c 0 (a0.length:Int) r1 r2 e
 refine fu rfl rfl rfl (aC [.tmp 5,.const (.int .i64 (0)),.tmp 6,.tmp 9] rfl rfl SD rfl l) ⟨rfl,rfl,rfl,rfl,trivial⟩ ?_
 refine aD ?_
 refine j8 ?_
 cases h
 exact aQ () [] 1 trivial rfl
def cK(k:Nat)(a1:Int)(x3:(List (List Int))):Nat->Int->Option (Except (Int ⊕ (List Int)) Unit)
 |0,_=>none
 |n+1,y4=>
  if y4 < (x3.length:Int) then((aG x3 y4).bind λx6=>
  (gu k x6 a1).bind λr7=>
  if 0≤r7 then(((if 0 < r7 then((ck (r7 - 1)).bind λs=>
  (aG x6 s).bind λe=>
  (cM (bN (length ([]:(List Int))+length [e]))).bind λ_=>
  some (([]:(List Int))++[e])) else(some ([]:(List Int)))):Option ((List Int))).bind λx8=>
  (((ck (r7+1)).bind λl=>
  if l < (x6.length:Int) then((ck (r7+1)).bind λj=>
  (aG x6 j).bind λc=>
  (cM (bN (length x8+length [c]))).bind λ_=>
  some (x8++[c])) else(some x8)):Option ((List Int))).bind λr=>
  (fW k r).bind λu=>
  some (.error (Sum.inr u:(Int ⊕ (List Int))))) else((ck (y4+1)).bind λh=>
  cK k a1 x3 n h)) else(some (.ok ()))
def eg(k:Nat):Nat->ae->Int->Int->Option ((Int ⊕ (List Int)))
 |0,_,_,_=>none
 |m0+1,a0,a1,a2=>
  bE (α:=Unit) ((aG a0.2.2.2.2.1 a2).bind λx3=>
  cK k a1 x3 k 0) (some) λ_=>
  ((if 0 < a2 then((ck (a2 - 1)).bind λh=>
  ((eg k m0) a0 a1 h).bind λc=>
  if K6 c=true then((ck (1+(Q2 c))).bind λe=>
  some e) else(some 1)) else(some 1)):Option (Int)).bind λj=>
  some (Sum.inl j:(Int ⊕ (List Int)))
theorem lz{M:Md Tryz.prog}{bm:Nat}{c0 c1 c2 c3 c4 c5:Value}(hK:Kn M bm 0 [c0,c1,c2,c3,c4,c5])(k:Nat):
 ∀(n:Nat) (a0:ae) (a1:Int) (a2:Int) (r:(Int ⊕ (List Int))),eg k n a0 a1 a2=some r->cz M 70 [.rep (.mo (Pv bm) [c0,c1,c2,c3,c4,c5] ap) a0,I a1,I a2] ([]) (λ_:Unit=>(bO [.rep (.pl 135 137 Tl) r],[])):=by
 intro n
 induction n with
 |zero=>intro a0 a1 a2 r h;cases h
 |succ m0 ih=>
  intro a0 a1 a2 r h;rw [eg] at h;replace h:=bp h;refine cz.of 80 Tryz.func70 rfl Tryz.ntmps70 rfl λS w0=>?_;refine sr (cq (nt ?_));refine dU (Z:=Unit) (α:=Unit) (λz2 x1=>[(0,.rep (.mo (Pv bm) [c0,c1,c2,c3,c4,c5] ap) a0),(1,I a1),(2,I a2)]) (λz2 x1=>[]) (λe=>e=r) h (λe h=>Option.some.inj h) (λK hR h=>?_) (λz2 x1 h=>?_)
  .refine sr (mq ?_);refine ja (lr rfl) ?_;refine ja (gV rfl jx) ?_;refine ja (iI 1 false rfl cS rfl rfl) ?_;refine ja (jr (t:=(.slice (.slice Tl))) rfl gG (hK.sub 4 1 rfl (le_of_ble_eq_true rfl)) rfl rfl) ?_;refine mq ?_;obtain⟨x3,VI,h⟩:=aa h;refine jb (aU (t:=(.slice Tl)) rfl xw mP VI) ?_;refine ja (ay (t:=(.slice Tl)) rfl mP rfl) ?_;refine ol qP ?_;refine fy rfl ?_;refine nt (ak (aH (λz5 y4=>[(0,.rep (.mo (Pv bm) [c0,c1,c2,c3,c4,c5] ap) a0),(1,I a1),(2,I a2),(21,.rep (.slice Tl) x3),(22,I (x3.length:Int)),(23,I y4)]) (λz5 y4=>[]) (cK k a1 x3) k () 0 (λ_=>rfl) h (SE.fin [] ⟨rfl,rfl,rfl,rfl,rfl,rfl,trivial⟩ rfl) (λn z5 y4 h=>?_)));unfold cK at h;refine sr (jb (bG rfl) ?_);refine nt (am (ci h (λh=>?_) (λh=>?_)))
   .refine sk (am (ak (sr ?_)));obtain⟨x6,VH,h⟩:=aa h;refine jb (aU (t:=Tl) rfl qP ii VH) ?_;refine ja (ay (t:=Tl) rfl ii rfl) ?_;refine aq (nt (sr ?_));iterate 2 refine mq ?_
    obtain⟨r7,VJ,h⟩:=aa h;refine jb (aC [.tmp 27,.tmp 28] rfl rfl RZ rfl (mR k x6 a1 r7 VJ)) ?_;refine aq (nt (sr ?_));refine mq ?_;refine jb (kC rfl) ?_;refine nt (ci h (λh=>?_) (λh=>?_))
    .refine sr (cq (nt ?_));refine aJ (Z:=Value) (α:=(List Int)) (λz9 x8=>[(8,.rep Tl x6),(9,I r7),(10,.eq z9)]) (λz9 x8=>[.sl z9 3 Ti x8]) h (λK h=>?_) (λz9 x8 h=>?_)
     .refine sr (mq ?_);refine jb (oG rfl) ?_;refine nt (ci h (λh=>?_) (λh=>?_))
      .refine ab ?_;iterate 3 refine mq ?_
       obtain⟨VM,U,h⟩:=aa h;refine jb (eA rfl U) ?_;obtain⟨x,Q,h⟩:=aa h;refine jb (aU (t:=Ti) rfl ix cL Q) ?_;refine ja (ay (t:=Ti) rfl cL rfl) ?_;refine ja (bf (t:=Ti) [(.tmp 39,_)] [x] rfl rfl dX (.cons rfl .int .nil) rfl rfl) ?_;refine dM (SE.nil 3 Ti) ?_;obtain⟨VO,Y,h⟩:=aa h;refine dZ rfl rfl rfl (cu rfl rfl dX (au Y)) ⟨rfl,rfl,trivial⟩ λVE=>?_;refine aq (nl ?_);exact jz (VE,([]:(List Int))++[x]) h [0]
      .refine bj (ao (bK (SE.nil 3 Ti) ?_));exact jz ((.slice none 0 0),([]:(List Int))) h [0]
     .refine aJ (Z:=Value) (α:=(List Int)) (λc j=>[(10,.eq c)]) (λc j=>[.sl c 3 Ti j]) h (λK h=>?_) (λc j h=>?_)
      .refine sr (mq ?_);obtain⟨VL,O,h⟩:=aa h;refine jb (bA rfl O) ?_;refine mq ?_;refine ol ix ?_;refine jb (bG rfl) ?_;refine nt (ci h (λh=>?_) (λh=>?_))
       .refine ab ?_;iterate 3 refine mq ?_
        obtain⟨VK,J,h⟩:=aa h;refine jb (bA rfl J) ?_;obtain⟨u,F,h⟩:=aa h;refine jb (aU (t:=Ti) rfl ix cL F) ?_;refine ja (ay (t:=Ti) rfl cL rfl) ?_;refine ja (bf (t:=Ti) [(.tmp 52,_)] [u] rfl rfl dX (.cons rfl .int .nil) rfl rfl) ?_;obtain⟨VN,X,h⟩:=aa h;refine dZ rfl rfl rfl (cu rfl rfl dX (au X)) ⟨rfl,rfl,trivial⟩ λzz=>?_;refine aq (nl ?_);exact jz (zz,x8++[u]) h [0]
       .refine bj (ao ?_);exact jz (z9,x8) h [0]
      .refine sr (mq ?_);obtain⟨VG,mc,h⟩:=aa h;refine ka (aC [.tmp 55] rfl rfl SG rfl (t4 k j c VG mc)) ?_;refine nt (sr (mq ?_));refine dM (jk [10,55,57] ⟨rfl,rfl,rfl,trivial⟩) ?_;refine ja (eo [(0,.tmp 57,_)] rfl Q5 NN Qd (jM ⟨rfl,trivial⟩) rfl) ?_;refine ja (Ld (t0:=135) (t:=Ti) rfl UT) ?_;refine aq (nt (aF (br (bP (bM ?_)))));obtain rfl:=hR _ h;exact ra
    .refine bj (aR (tn (ab ?_)));obtain⟨qt,E,h⟩:=aa h;refine jb (bA rfl E) ?_;refine mq (nl ?_);exact jz ((),qt) h []
   .refine xa ?_;exact jz ((),()) h []
  .refine sr (cq (nt ?_));refine aJ (Z:=Unit) (α:=Int) (λs l=>[(11,I l)]) (λs l=>[]) h (λK h=>?_) (λs l h=>?_)
   .refine sr (mq ?_);refine jb (oG rfl) ?_;refine nt (ci h (λh=>?_) (λh=>?_))
    .refine sr ?_;iterate 3 refine mq ?_
     obtain⟨mw,D,h⟩:=aa h;refine jb (eA rfl D) ?_;obtain⟨VF,gw,h⟩:=aa h;refine jc (aZ [.tmp 64,.tmp 65,.tmp 67] rfl rfl PW rfl (ih a0 a1 mw VF gw)) ?_;refine bh rfl (DT rfl Hl (by decide)) ⟨rfl,trivial⟩ ?_;refine mq ?_;refine xr ?_;refine xr ?_;refine aX rfl rfl rfl (bo rfl GL Oi) trivial λVP=>?_;refine aP rfl rfl (aM rfl NY trivial rfl rfl) ⟨rfl,rfl,trivial⟩ ?_;refine aq (nt (sr ?_));refine mq (nt ?_);refine cv h (λh=>?_) (λh=>?_)
     .refine ab (mq ?_);refine fl Eg ?_;refine lo cL ?_;obtain⟨mt,y,h⟩:=aa h;refine jb (bA rfl y) ?_;refine aq (nl ?_);exact jz ((),mt) h []
     .refine bj (ao ?_);exact jz ((),1) h []
    .refine bj (ao ?_);exact jz ((),1) h []
   .refine sr (mq ?_);refine ja (eo [(0,.tmp 77,_)] rfl Q6 GL Qe (jM ⟨rfl,trivial⟩) rfl) ?_;refine ja (Le (t1:=137) (t:=Ti) rfl UU) ?_;refine aq (nt (aF ?_));cases h;exact ra
def iF(k:Nat)(a0:Oa):Option (List Int):=
 some ([]:(List Int))
theorem qx(k:Nat)(a0:Oa)(r:(List Int))(h:iF k a0=some r):
 dG Tryz.prog 150 [.rep QW a0] [] (λ_:Unit=>(bO [.rep Tl r],[])):=by
 unfold iF at h
 replace h:=bp h
 refine dG.of 3 Tryz.func150 rfl Tryz.ntmps150 rfl λS w0=>?_
 refine sr ?_
 refine bx λb1=>?_
 refine cq ?_
 refine nt ?_
 refine sr ?_
 refine cq ?_
 refine nt ?_
 refine aF ?_
 refine bK (fq (t:=Tl) (x:=([]:(List Int))) 2 rfl .nil rfl rfl) ?_
 cases h
 exact ra
def iD(k:Nat)(a0:N9):Option (List Int):=
 some a0
theorem qp(k:Nat)(a0:N9)(r:(List Int))(h:iD k a0=some r):
 dG Tryz.prog 151 [.rep QV a0] [] (λ_:Unit=>(bO [.rep Tl r],[])):=by
 unfold iD at h
 replace h:=bp h
 refine dG.of 5 Tryz.func151 rfl Tryz.ntmps151 rfl λS w0=>?_
 refine sr ?_
 refine bx λb1=>?_
 refine cq ?_
 refine nt ?_
 refine sr ?_
 refine fl Mc ?_
 refine lo ii ?_
 refine aq ?_
 refine nt ?_
 refine aF ?_
 cases h
 exact ra
def ce(k:Nat)(a0:ae)(a1:(List Int))(r5:(List Int)):Nat->Int->Option (Except Int Unit)
 |0,_=>none
 |n+1,y6=>
  if y6 < (r5.length:Int) then((aG r5 y6).bind λx8=>
  (cM (0≤x8/\x8 < 5)).bind λ_=>
  (aG a1 x8).bind λe=>
  if(td 0 a0.2.1)≤e then(some (.error x8)) else((ck (y6+1)).bind λc=>
  ce k a0 a1 r5 n c)) else(some (.ok ()))
def dC(k:Nat)(a0:ae)(a1:(List Int))(a2:Int)(a3:Int):Option Int:=
 bE (α:=Unit) ((eg k k a0 a2 a3).bind λr4=>
 (Jn r4 (λn=>iF k n) (λl=>iD k l)).bind λr5=>
 ce k a0 a1 r5 k 0) (some) λ_=>
 some (-1:Int)
theorem jR{M:Md Tryz.prog}{bm:Nat}{c0 c1 c2 c3 c4 c5:Value}(hK:Kn M bm 0 [c0,c1,c2,c3,c4,c5])(k:Nat)(a0:ae)(a1:(List Int))(a2:Int)(a3:Int)(r:Int)(h:dC k a0 a1 a2 a3=some r):
    cz M 71 [.rep (.mo (Pv bm) [c0,c1,c2,c3,c4,c5] ap) a0,.rep Tr a1,.eq (.int .i64 a2),.eq (.int .i64 a3)] [] (λ_:Unit=>(bO [.eq (.int .i64 r)],[])):=by
  unfold dC at h
  replace h:=bp h
  refine cz.of 33 Tryz.func71 rfl Tryz.ntmps71 rfl λS w0=>?_
  refine am ?_
  refine ab ?_
  refine aX rfl rfl rfl (uT rfl rfl) ⟨rfl,trivial⟩ λb1=>?_
  refine tY rfl ?_
  refine aD ?_
  refine ao ?_
  show JC _ _ _ _ _
  refine dU (Z:=Unit) (α:=Unit) (λz3 x2=>[]) (λz3 x2=>[]) (λe=>e=r) h (λe h=>Option.some.inj h) (λK hR h=>?_) (λz3 x2 h=>?_)
  .
    refine am ?_
    refine ab ?_
    refine dh rfl rfl ?_
    refine dh rfl rfl ?_
    refine dh rfl rfl ?_
    obtain⟨r4,D,h⟩:=aa h
    have E:=lz hK k k a0 a2 a3 r4 D
    refine bh rfl (aZ [.tmp 11,.tmp 12,.tmp 13] rfl rfl PW rfl E) ⟨rfl,rfl,rfl,trivial⟩ ?_
    obtain⟨r5,c,h⟩:=aa h
    refine bh rfl (Lh (r:=.rep Tl r5) rfl rfl wh we (λn hd=>.agI (qx k n r5 (by rw [hd] at c;exact c))) (λl hd=>.agS (qp k l r5 (by rw [hd] at c;exact c)))) ⟨rfl,trivial⟩ ?_
    refine bh rfl (nP rfl rfl ix) ⟨rfl,trivial⟩ ?_
    refine fy rfl ?_
    refine aD ?_
    refine ao ?_
    show JC _ _ _ _ _
    refine ak ?_
    refine aH (λz7 y6=>[(0,.rep (.mo (Pv bm) [c0,c1,c2,c3,c4,c5] ap) a0),(5,.eq (Pv b1)),(15,.rep Tl r5),(16,.eq (.int .i64 (r5.length:Int))),(17,.eq (.int .i64 y6))]) (λz7 y6=>[.obj b1 56 (.rep Tr a1)]) (ce k a0 a1 r5) k () 0 (λ_=>rfl) h (SE.fin [0] ⟨rfl,rfl,rfl,rfl,rfl,trivial⟩ rfl) (λn z7 y6 h=>?_)
    unfold ce at h
    refine am ?_
    refine ab ?_
    refine bh rfl (bG rfl) ⟨rfl,rfl,trivial⟩ ?_
    refine aD ?_
    refine ao ?_
    show JC _ _ _ _ _
    refine am ?_
    refine ie rfl (λhb=>?_) (λhb=>?_)
    . replace h:=fo (vI hb) h
      refine bj ?_
      refine ao ?_
      show JC _ _ _ _ _
      refine am ?_
      refine ak ?_
      refine am ?_
      refine ab ?_
      obtain⟨x8,y,h⟩:=aa h
      refine bh rfl (aU (t:=Ti) rfl ix cL y) ⟨rfl,rfl,trivial⟩ ?_
      refine bh rfl (ay (t:=Ti) rfl cL rfl) ⟨rfl,trivial⟩ ?_
      refine nU rfl rfl ?_
      refine aD ?_
      refine ao ?_
      show JC _ _ _ _ _
      refine am ?_
      refine cN ?_
      refine gh rfl rfl rfl (bL rfl) ⟨rfl,trivial⟩ ?_
      obtain⟨u9,u,h⟩:=aa h
      refine gh rfl rfl rfl (dY rfl Dj cL (au u).1 (au u).2) ⟨rfl,rfl,trivial⟩ ?_
      obtain⟨F,s,h⟩:=aa h
      refine yV 0 rfl rfl rfl rfl (nv (t:=Ti) (off:=0) (i:=x8) (N:=5) rfl cL (λ_=>rfl) rfl rfl rfl rfl s) ⟨rfl,trivial⟩ ?_
      refine gh rfl rfl rfl (bL rfl) ⟨rfl,trivial⟩ ?_
      refine gh rfl rfl rfl (lr rfl) ⟨rfl,trivial⟩ ?_
      refine gh rfl rfl rfl (gV rfl jx) ⟨rfl,trivial⟩ ?_
      refine gh rfl rfl rfl (iI 1 false rfl CO rfl rfl) ⟨rfl,trivial⟩ ?_
      refine gh rfl rfl rfl (jr (t:=Ti) rfl cL (hK.sub 1 1 rfl (le_of_ble_eq_true rfl)) rfl rfl) ⟨rfl,trivial⟩ ?_
      refine gh rfl rfl rfl (H6 rfl rfl) ⟨rfl,rfl,trivial⟩ ?_
      refine Ds (by kernel_rfl) d4 ?_
      refine bh rfl (kC rfl) ⟨rfl,rfl,trivial⟩ ?_
      refine aD ?_
      refine ao ?_
      show JC _ _ _ _ _
      refine ie rfl (λhb=>?_) (λhb=>?_)
      . replace h:=fo (vI hb) h
        refine am ?_
        refine ab ?_
        refine dh rfl rfl ?_
        refine nU rfl rfl ?_
        refine aD ?_
        refine ao ?_
        show JC _ _ _ _ _
        refine aF ?_
        refine bP ?_
        refine bM ?_
        refine bM ?_
        refine bP ?_
        refine bM ?_
        obtain rfl:=hR _ h
        exact aQ () [_] 0 ⟨rfl,trivial⟩ rfl
      . replace h:=di (vJ hb) h
        refine bj ?_
        refine aR ?_
        refine ao ?_
        show JC _ _ _ _ _
        refine ab ?_
        obtain⟨x,j,h⟩:=aa h
        refine bh rfl (bA rfl j) ⟨rfl,rfl,trivial⟩ ?_
        refine dh rfl rfl ?_
        refine aD ?_
        refine ao ?_
        exact mJ ((),x) h (SE.fin [0] ⟨rfl,rfl,rfl,rfl,rfl,trivial⟩ rfl)
    . replace h:=di (vJ hb) h
      refine eO ?_
      refine bi ?_
      refine bi ?_
      refine cT ?_
      refine ao ?_
      exact mJ ((),()) h (SE.fin [] trivial rfl)
  .
    refine am ?_
    refine ab ?_
    refine tY rfl ?_
    refine aD ?_
    refine ao ?_
    show JC _ _ _ _ _
    refine aF ?_
    obtain rfl:=Option.some.inj h
    exact aQ () [_] 0 ⟨rfl,trivial⟩ rfl
def cD(k:Nat)(a0:ae)(a1:(List Int))(a2:Int):Nat->((List Int)×Int)->Option (List Int)
 |0,_=>none
 |n+1,y6=>
  if y6.2 < a0.1 then((((eg k k a0 y6.2 a2).bind λc=>
  if K6 c=true then(if a0.2.2.2.1≤(Q2 c) then((cM (0≤y6.2/\y6.2 < 5)).bind λ_=>
  some (List.set y6.1 (Int.toNat y6.2) (-1:Int))) else(some y6.1)) else(if¬(K6 c=true) then((cM (0≤y6.2/\y6.2 < 5)).bind λ_=>
  (aG a1 y6.2).bind λl=>
  if 0≤l then((cM (0≤y6.2/\y6.2 < 5)).bind λ_=>
  (aG a1 y6.2).bind λj=>
  (ck (j+1)).bind λh=>
  (cM (0≤y6.2/\y6.2 < 5)).bind λ_=>
  some (List.set y6.1 (Int.toNat y6.2) h)) else((dC k a0 a1 y6.2 a2).bind λr=>
  if 0≤r then((cM (0≤y6.2/\y6.2 < 5)).bind λ_=>
  some (List.set y6.1 (Int.toNat y6.2) 0)) else(some y6.1))) else(some y6.1))):Option ((List Int))).bind λx8=>
  (ck (y6.2+1)).bind λe=>
  cD k a0 a1 a2 n (x8,e)) else(some y6.1)
def gX(k:Nat)(a0:ae)(a1:(List Int))(a2:Int):Option (List Int):=
 ((cD k a0 a1 a2 k (a1,0)):Option ((List Int))).bind λx4=>
 some x4
theorem rE{M:Md Tryz.prog}{bm:Nat}{c0 c1 c2 c3 c4 c5:Value}(hK:Kn M bm 0 [c0,c1,c2,c3,c4,c5])(k:Nat)(a0:ae)(a1:(List Int))(a2:Int)(r:(List Int))(h:gX k a0 a1 a2=some r):
 cz M 44 [.rep (.mo (Pv bm) [c0,c1,c2,c3,c4,c5] ap) a0,.rep Tr a1,I a2] [] (λ_:Unit=>(bO [.rep Tr r],[])):=by
 unfold gX at h
 replace h:=bp h
 refine cz.of 60 Tryz.func44 rfl Tryz.ntmps44 rfl λS w0=>?_
 refine sr ?_
 refine bx λb1=>?_
 refine aX rfl rfl rfl (bo rfl Ks M9) trivial λb2=>?_
 refine nt ?_
 refine sr ?_
 refine fr 1 ?_
 refine lo jm ?_
 refine aX rfl rfl rfl (bo rfl Ks M9) trivial λb3=>?_
 refine aP rfl rfl (aM rfl jm rfl rfl rfl) ⟨rfl,rfl,trivial⟩ ?_
 refine nt ?_
 refine aJ (Z:=Unit) (α:=(List Int)) (λz5 x4=>[(6,Pt b2),(7,Pt b3)]) (λz5 x4=>[.obj b2 56 (.rep Tr [0,0,0,0,0]),.obj b3 56 (.rep Tr x4)]) h (λK h=>?_) (λz5 x4 h=>?_)
 .
  refine sr (mq ?_);refine ja (lr rfl) ?_;refine ja (gV rfl jx) ?_;refine ja (iI 1 false rfl ge rfl rfl) ?_;refine ja (jr (t:=Ti) rfl cL (hK.sub 0 1 rfl (le_of_ble_eq_true rfl)) rfl rfl) ?_;refine fy rfl ?_;refine nt (ak (aH (λz7 y6=>[(0,.rep (.mo (Pv bm) [c0,c1,c2,c3,c4,c5] ap) a0),(2,I a2),(4,Pt b1),(6,Pt b2),(7,Pt b3),(16,I a0.1),(17,I y6.2)]) (λz7 y6=>[.obj b1 56 (.rep Tr a1),.obj b2 56 (.rep Tr [0,0,0,0,0]),.obj b3 56 (.rep Tr y6.1)]) (cD k a0 a1 a2) k () (a1,0) (λ_=>rfl) h (SE.fin [1,2,0] ⟨rfl,rfl,rfl,rfl,rfl,rfl,rfl,trivial⟩ rfl) (λn z7 y6 h=>?_)));unfold cD at h;refine sr (jb (bG rfl) ?_);refine nt (am (ci h (λh=>?_) (λh=>?_)))
  .refine sk (aJ (Z:=Unit) (α:=(List Int)) (λz9 x8=>[(0,.rep (.mo (Pv bm) [c0,c1,c2,c3,c4,c5] ap) a0),(2,I a2),(4,Pt b1),(6,Pt b2),(7,Pt b3),(16,I a0.1),(17,I y6.2)]) (λz9 x8=>[.obj b1 56 (.rep Tr a1),.obj b2 56 (.rep Tr [0,0,0,0,0]),.obj b3 56 (.rep Tr x8)]) h (λK h=>?_) (λz9 x8 h=>?_))
   .refine ak (sr (mq ?_));refine aq (nt (sr ?_));iterate 3 refine mq ?_
    obtain⟨U,F,h⟩:=aa h;refine jc (aZ [.tmp 20,.tmp 21,.tmp 22] rfl rfl PW rfl (lz hK k k a0 y6.2 a2 U F)) ?_;refine nt (ak (sr (bh rfl (DT rfl Hl (by decide)) ⟨rfl,trivial⟩ ?_)));refine xr ?_;refine xr ?_;refine nt (cv h (λh=>?_) (λh=>?_))
    .refine sr (aX rfl rfl rfl (bo rfl GL Oi) trivial λzz=>?_);refine aP rfl rfl (aM rfl NY trivial rfl rfl) ⟨rfl,rfl,trivial⟩ ?_;refine nt (am (cN ?_));refine da (aA rfl Eg) ?_;refine ea 0 (ax rfl cL nY rfl) ?_;refine dm ?_;refine da (lr rfl) ?_;refine da (gV rfl jx) ?_;refine da (iI 1 false rfl I6 rfl rfl) ?_;refine da (jr (t:=Ti) rfl cL (hK.sub 3 1 rfl (le_of_ble_eq_true rfl)) rfl rfl) ?_;refine df d4 ?_;refine jb (kC rfl) ?_;refine nt (ci h (λh=>?_) (λh=>?_))
     .refine ab (mq ?_);obtain⟨mw,j,h⟩:=aa h;refine jb (dY rfl Dj cL (au j).1 (au j).2) ?_;refine fr 3 ?_;refine aP rfl rfl (gU (t:=Ti) (off:=0) (i:=y6.2) (N:=5) rfl cL .int rfl rfl rfl rfl (au j).1 (au j).2 rfl) ⟨rfl,rfl,trivial⟩ ?_;refine aD (aR (bn ?_));exact jz ((),List.set y6.1 (Int.toNat y6.2) (-1:Int)) h [2,3,0]
     .refine bj (aR (bn ?_));exact jz ((),y6.1) h [1,2,3]
    .refine sr (bh rfl (Ln rfl OL (by decide)) ⟨rfl,trivial⟩ ?_);refine xr ?_;refine xr ?_;refine nt (cw h (λh=>?_) (λh=>?_))
     .refine sr (aX rfl rfl rfl (bo rfl NN SO) trivial λqt=>?_);refine aP rfl rfl (aM rfl QX trivial rfl rfl) ⟨rfl,rfl,trivial⟩ ?_;refine nt (sr (mq ?_));obtain⟨mt,s,h⟩:=aa h;refine jb (dY rfl Dj cL (au s).1 (au s).2) ?_;obtain⟨Y,D,h⟩:=aa h;refine fr 1 ?_;refine ka (nv (t:=Ti) (off:=0) (i:=y6.2) (N:=5) rfl cL (λ_=>rfl) rfl rfl rfl rfl D) ?_;refine jb (kC rfl) ?_;refine nt (ci h (λh=>?_) (λh=>?_))
      .refine ab ?_;iterate 2 refine mq ?_
       obtain⟨u16,l,h⟩:=aa h;refine jb (dY rfl Dj cL (au l).1 (au l).2) ?_;obtain⟨X,y,h⟩:=aa h;refine ka (nv (t:=Ti) (off:=0) (i:=y6.2) (N:=5) rfl cL (λ_=>rfl) rfl rfl rfl rfl y) ?_;obtain⟨O,x,h⟩:=aa h;refine jb (bA rfl x) ?_;obtain⟨mc,e,h⟩:=aa h;refine jb (dY rfl Dj cL (au e).1 (au e).2) ?_;refine fr 3 ?_;refine aP rfl rfl (gU (t:=Ti) (off:=0) (i:=y6.2) (N:=5) rfl cL .int rfl rfl rfl rfl (au e).1 (au e).2 rfl) ⟨rfl,rfl,trivial⟩ ?_;refine aD (aR (bn ?_));exact jz ((),List.set y6.1 (Int.toNat y6.2) O) h [1,3,0]
      .refine sr (mq ?_);refine lo jm ?_;iterate 2 refine mq ?_
       obtain⟨Q,E,h⟩:=aa h;refine bh rfl (aZ [.tmp 50,.tmp 51,.tmp 52,.tmp 53] rfl rfl RV rfl (jR hK k a0 a1 y6.2 a2 Q E)) ⟨rfl,rfl,rfl,rfl,trivial⟩ ?_;refine jb (kC rfl) ?_;refine nt (ci h (λh=>?_) (λh=>?_))
       .refine ab (mq ?_);obtain⟨gw,c,h⟩:=aa h;refine jb (dY rfl Dj cL (au c).1 (au c).2) ?_;refine fr 3 ?_;refine aP rfl rfl (gU (t:=Ti) (off:=0) (i:=y6.2) (N:=5) rfl cL .int rfl rfl rfl rfl (au c).1 (au c).2 rfl) ⟨rfl,rfl,trivial⟩ ?_;refine aD (aR (bn ?_));exact jz ((),List.set y6.1 (Int.toNat y6.2) 0) h [1,3,0]
       .refine bj (aR (bn ?_));exact jz ((),y6.1) h [0,2,3]
     .refine bj (aR (bn ?_));exact jz ((),y6.1) h [0,1,2]
   .refine ab ?_;obtain⟨J,u,h⟩:=aa h;refine jb (bA rfl u) ?_;refine mq (nl ?_);exact jz ((),(x8,J)) h [0,1,2]
  .refine xa ?_;exact jz ((),y6.1) h [1,2]
 .
  refine sr (fr 1 ?_);refine lo jm ?_;refine fr 1 ?_;refine aP rfl rfl (aM rfl jm rfl rfl rfl) ⟨rfl,rfl,trivial⟩ ?_;refine nt (aF ?_);obtain rfl:=Option.some.inj h;exact aQ () [.rep Tr x4] 0 ⟨⟨_,_,_,_,_,rfl,(.head _),jm,(tP),rfl⟩,trivial⟩ rfl
def im(k:Nat)(a0:List Int):Option (List Int):=
 (cM (bN (length a0))).bind λ_=>some a0
theorem sx(k:Nat)(a0:List Int)(r:List Int)(h:im k a0=some r):
 dG Tryz.prog 21 [.rep Tl a0] [] (λz:Value=>(bO [.eq z],[.sl z 3 Ti r])):=by
 unfold im at h
 replace h:=bp h
 refine dG.of 8 Tryz.func21 rfl Tryz.ntmps21 rfl λS w0=>?_
 obtain⟨u1,c,h⟩:=aa h
 cases h
 refine sr ?_
 refine cq ?_
 refine nt ?_
 refine am ?_
 refine sr ?_
 refine mq ?_
 refine aO (Δ:=[]) (F:=_) (λ_ _ _=>ag rfl _) rfl rfl (Ll rfl ix) ⟨rfl,rfl,trivial⟩ λb=>?_
 refine nt ?_
 refine ie rfl (λhb=>?_) (λhb=>?_)
 .
  refine sr (cq (nt (rx ?_)));obtain rfl:=b.2 hb;refine bK (SE.nil 3 Ti) ?_;exact aQ (.slice none 0 0) [.eq (.slice none 0 0)] 1 ⟨rfl,trivial⟩ rfl
 .
  refine sk (sr (aX rfl rfl rfl (lu (t:=Ti) [] [] rfl rfl dX .nil rfl rfl) trivial λv1=>?_));refine mq ?_;refine dZ rfl rfl rfl (cu rfl rfl dX (by simpa using au c)) ⟨rfl,rfl,trivial⟩ λv2=>?_;refine aq (nt (aF ?_));exact aQ v2 [.eq v2] 1 ⟨rfl,trivial⟩ rfl
def dy{σ:Type}(k:Nat)(a0:Int)(a3:Int)(self:Int->Int->σ->Option (Bool×σ)):Nat->(Int×σ)->Option (Except (Bool×σ) (σ))
 |0,_=>none
 |n+1,y5=>
  if y5.1 < a3 then((f7 k a0 y5.1).bind λr7=>
  (ck (y5.1+1)).bind λx8=>
  (self r7 x8 y5.2).bind λr9=>
  if¬(r9.1=true) then(some (.error (false,r9.2))) else((ck (y5.1+1)).bind λc=>
  dy k a0 a3 self n (c,r9.2))) else(some (.ok y5.2))
def dB{σ:Type}(k:Nat)(Y:σ->Int->Option (σ×Bool))(a3:Int):Nat->Int->Int->σ->Option (Bool×σ)
 |0,_,_,_=>none
 |m0+1,a0,a1,s0=>
  (Y s0 a0).bind λr1=>
  if¬(r1.2=true) then(some (false,r1.1)) else(bE (α:=σ) (dy k a0 a3 (dB k Y a3 m0) k (a1,r1.1)) (some) λx3=>
  some (true,x3))
theorem sT{M:Md Tryz.prog}{σ Z:Type}(E:Z->σ->List D)(l:Nat)(Y:σ->Int->Option (σ×Bool))(k:Nat)(u:Nat)(a3:Int)(j:Nat)(c:Nat)(hY:∀z s p r,Y s p=some r->YT M l [.eq (.int .u8 p)] (E z s) (λz':Z=>(.eq (.bool r.2),E z' r.1))):
 ∀(n:Nat) (a0:Int) (a1:Int) (z0:Z) (s0:σ) (r:Bool×σ),dB k Y a3 n a0 a1 s0=some r->cz M 73 [.eq (.int .u8 a0),I a1,Pt u,Pt j,Pt c] ([.obj u 114 (.eq (.func (.yield l) #[] #[])),.obj j 3 (I a3),.obj c 113 (.eq (.func (.func 73) #[] #[(Pv u),(Pv j),(Pv c)]))]++E z0 s0) (λz:Z=>(bO [.eq (.bool r.1)],[.obj u 114 (.eq (.func (.yield l) #[] #[])),.obj j 3 (I a3),.obj c 113 (.eq (.func (.func 73) #[] #[(Pv u),(Pv j),(Pv c)]))]++E z r.2)):=by
 intro n
 induction n with
 |zero=>intro a0 a1 z0 s0 r h;cases h
 |succ m0 ih=>
  intro a0 a1 z0 s0 r h;rw [dB] at h;replace h:=bp h;refine cz.of 27 Tryz.func73 rfl Tryz.ntmps73 rfl λS w0=>?_;refine sr (cq (nt (am (sr ?_))));refine lo QY ?_;refine mq ?_;obtain⟨r1,U,h⟩:=aa h;refine fr 2 ?_;refine fr 2 ?_;refine fr 2 ?_;refine JP [.obj u 114 (.eq (.func (.yield l) #[] #[])),.obj j 3 (I a3),.obj c 113 (.eq (.func (.func 73) #[] #[(Pv u),(Pv j),(Pv c)]))] rfl rfl rfl (K9 [.tmp 10] rfl rfl rfl (hY z0 s0 a0 r1 U)) ⟨rfl,rfl,trivial⟩ λz2=>?_;refine ja (iY rfl) ?_;refine nt (cw h (λh=>?_) (λh=>?_))
  .refine sr (cq (nt (rx ?_)));cases h;exact um z2 [_] ⟨rfl,trivial⟩ rfl
  .refine sk (dU (Z:=Z) (α:=σ) (λz4 x3=>[]) (λz4 x3=>[.obj u 114 (.eq (.func (.yield l) #[] #[])),.obj j 3 (I a3),.obj c 113 (.eq (.func (.func 73) #[] #[(Pv u),(Pv j),(Pv c)]))]++E z4 x3) (λe=>e=r) h (λe h=>Option.some.inj h) (λK hR h=>?_) (λz4 x3 h=>?_))
   .refine sr (mq ?_);refine aq (nt (ak ?_));refine aH (Z:=Z) (α:=Int×σ) (λz6 y5=>[(0,.eq (.int .u8 a0)),(3,Pt j),(4,Pt c),(8,I y5.1)]) (λz6 y5=>[.obj j 3 (I a3),.obj c 113 (.eq (.func (.func 73) #[] #[(Pv u),(Pv j),(Pv c)])),.obj u 114 (.eq (.func (.yield l) #[] #[]))]++E z6 y5.2) (dy k a0 a3 (dB k Y a3 m0)) k z2 (a1,r1.1) (λ_=>rfl) h (dL [.obj u 114 (.eq (.func (.yield l) #[] #[])),.obj j 3 (I a3),.obj c 113 (.eq (.func (.func 73) #[] #[(Pv u),(Pv j),(Pv c)]))] (E z2 r1.1) [1,2,0] ⟨rfl,rfl,rfl,rfl,trivial⟩ rfl) (λn z6 y5 h=>?_);unfold dy at h;refine am (sr (mq ?_));refine lo cL ?_;refine jb (bG rfl) ?_;refine nt (ci h (λh=>?_) (λh=>?_))
    .refine sk (am (ak (am (cN ?_))));refine ea 1 (ax rfl Hq nY rfl) ?_;refine dm ?_;refine dm ?_;obtain⟨r7,Q,h⟩:=aa h;refine db (aC [.tmp 20,.tmp 21] rfl rfl PY rfl (ku k a0 y5.1 r7 Q)) ?_;refine dm ?_;obtain⟨x8,J,h⟩:=aa h;refine db (bA rfl J) ?_;refine df d4 ?_;obtain⟨r9,O,h⟩:=aa h;refine fr 1 ?_;refine fr 1 ?_;refine fr 2 ?_;refine A8 rfl rfl rfl (rp (fs:=[]) (cs:=[(Pv u),(Pv j),(Pv c)]) (ags:=[.eq (.int .u8 r7),I x8]) [.tmp 22,.tmp 24] rfl rfl RS rfl (ih r7 x8 z6 y5.2 r9 O)) ⟨rfl,rfl,rfl,trivial⟩ λx=>?_;refine ja (iY rfl) ?_;refine nt (cw h (λh=>?_) (λh=>?_))
     .refine sr (cq (nt (aF (br (bP (bM ?_))))));obtain rfl:=hR _ h;exact um x [_] ⟨rfl,trivial⟩ rfl
     .refine bj (aR (tn (ab (mq ?_))));obtain⟨F,y,h⟩:=aa h;refine jb (bA rfl y) ?_;refine aq (nl ?_);exact mJ (x,(F,r9.2)) h (dL [.obj u 114 (.eq (.func (.yield l) #[] #[])),.obj j 3 (I a3),.obj c 113 (.eq (.func (.func 73) #[] #[(Pv u),(Pv j),(Pv c)]))] (E x r9.2) [1,2,0] ⟨rfl,rfl,rfl,rfl,trivial⟩ rfl)
    .refine xa ?_;exact mJ (z6,y5.2) h (dL [.obj j 3 (I a3),.obj c 113 (.eq (.func (.func 73) #[] #[(Pv u),(Pv j),(Pv c)])),.obj u 114 (.eq (.func (.yield l) #[] #[]))] (E z6 y5.2) [2,0,1] trivial rfl)
   .refine sr (cq (nt (aF ?_)));cases h;exact um z4 [_] ⟨rfl,trivial⟩ rfl
def jS{σ:Type}(k:Nat)(Y:σ->Int->Option (σ×Bool))(a1:Int)(s0:σ):Option (σ):=
 (dB k Y a1 k 0 0 s0).bind λr3=>
 some r3.2
theorem oM{M:Md Tryz.prog}{σ Z:Type}(E:Z->σ->List D)(l:Nat)(Y:σ->Int->Option (σ×Bool))(k:Nat)(a1:Int)(c:Nat)(hY:∀z s p r,Y s p=some r->YT M l [.eq (.int .u8 p)] (E z s) (λz':Z=>(.eq (.bool r.2),E z' r.1))):
 ∀(z0:Z) (s0:σ) (r:σ),jS k Y a1 s0=some r->cz M 72 [.eq (.func (.yield l) #[] #[]),Pt c] ([.obj c 3 (I a1)]++E z0 s0) (λz:Z=>(bO [],[.obj c 3 (I a1)]++E z r)):=by
 intro z0 s0 r h
 unfold jS at h
 replace h:=bp h
 refine cz.of 7 Tryz.func72 rfl Tryz.ntmps72 rfl λS w0=>?_
 refine sr ?_
 refine bx λb1=>?_
 refine nt ?_
 refine sr ?_
 refine aX rfl rfl rfl (bo rfl QM SQ) trivial λb2=>?_
 refine nt ?_
 refine sr ?_
 refine jc (sG [] [.tmp 2,.tmp 1,.tmp 3] [] [(Pv b1),(Pv c),(Pv b2)] rfl rfl rfl) ?_
 refine aP rfl rfl (aM rfl Hq rfl rfl rfl) ⟨rfl,rfl,trivial⟩ ?_
 refine nt ?_
 refine ab ?_
 refine lo Hq ?_
 obtain⟨r3,e,h⟩:=aa h
 have j:=sT E l Y k b1 a1 c b2 hY k 0 0 z0 s0 r3 e
 refine fr 2 ?_
 refine fr 2 ?_
 refine A8 rfl rfl rfl (rp (fs:=[]) (cs:=[(Pv b1),(Pv c),(Pv b2)]) (ags:=[.eq (.int .u8 0),I 0]) [.const (.int .u8 (0)),.const (.int .i64 (0))] rfl rfl RS rfl j) ⟨rfl,rfl,rfl,trivial⟩ λz4=>?_
 refine aD ?_
 refine j8 ?_
 refine bK (dL (Γ':=[]) [.obj b1 114 (.eq (.func (.yield l) #[] #[])),.obj c 3 (I a1),.obj b2 113 (.eq (.func (.func 73) #[] #[(Pv b1),(Pv c),(Pv b2)]))] (E z4 r3.2) [1] trivial rfl) ?_
 cases h
 exact um z4 [] trivial rfl
theorem rG(a0:Int):dG Tryz.prog 45 [I a0] [] (λz:Nat=>(bO [.eq (.func (.func 72) #[] #[(Pv z)])],[.obj z 3 (I a0)])):=by
 refine dG.of 4 Tryz.func45 rfl Tryz.ntmps45 rfl λS w0=>?_;refine sr (bx λz=>?_);refine cq (nt (sr ?_));refine ja (sG [] [.tmp 1] [] [(Pv z)] rfl rfl rfl) ?_;refine aq (nt (aF ?_));exact aQ z [_] 1 ⟨rfl,trivial⟩ rfl
def dH(k:Nat)(a0:Int):Nat->((List Int)×Int)->Option (List Int)
 |0,_=>none
 |n+1,y3=>
  if y3.2 < 5 then((((eZ k a0 y3.2).bind λr7=>
  if r7=true then((cM (bN (length y3.1+length [y3.2]))).bind λ_=>
  some (y3.1++[y3.2])) else(some y3.1)):Option ((List Int))).bind λx5=>
  (ck (y3.2+1)).bind λc=>
  dH k a0 n (x5,c)) else(some y3.1)
def f8(k:Nat)(a0:Int):Option (List Int):=
 ((dH k a0 k (([]:(List Int)),0)):Option ((List Int))).bind λx1=>
 some x1
theorem kw(k:Nat)(a0:Int)(r:(List Int))(h:f8 k a0=some r):
 dG Tryz.prog 23 [.eq (.int .u8 a0)] [] (λ_:Unit=>(bO [.rep Tl r],[])):=by
 unfold f8 at h
 replace h:=bp h
 refine dG.of 17 Tryz.func23 rfl Tryz.ntmps23 rfl λS w0=>?_
 refine sr ?_
 refine cq ?_
 refine nt ?_
 refine sr ?_
 refine cq ?_
 refine nt ?_
 refine aJ (Z:=Value) (α:=(List Int)) (λz2 x1=>[(3,.eq z2)]) (λz2 x1=>[.sl z2 3 Ti x1]) h (λK h=>?_) (λz2 x1 h=>?_)
 .
  refine sr (fy rfl ?_);refine nt (ak (fL (SE.nil 3 Ti) ?_));refine aH (λz4 y3=>[(0,.eq (.int .u8 a0)),(3,.eq z4),(5,I y3.2)]) (λz4 y3=>[.sl z4 3 Ti y3.1]) (dH k a0) k (.slice none 0 0) (([]:(List Int)),0) (λ_=>rfl) h (SE.fin [0] ⟨rfl,rfl,rfl,trivial⟩ rfl) (λn z4 y3 h=>?_);unfold dH at h;refine sr (jb (bG rfl) ?_);refine nt (am (ci h (λh=>?_) (λh=>?_)))
  .refine sk (aJ (Z:=Value) (α:=(List Int)) (λz6 x5=>[(0,.eq (.int .u8 a0)),(3,.eq z6),(5,I y3.2)]) (λz6 x5=>[.sl z6 3 Ti x5]) h (λK h=>?_) (λz6 x5 h=>?_))
   .refine ak (sr (mq ?_));refine aq (nt (sr ?_));iterate 2 refine mq ?_
    obtain⟨r7,l,h⟩:=aa h;refine jb (aC [.tmp 8,.tmp 9] rfl rfl Jc rfl (gW k a0 y3.2 r7 l)) ?_;refine nt (cv h (λh=>?_) (λh=>?_))
    .refine ab ?_;iterate 2 refine mq ?_
     refine ja (bf (t:=Ti) [(.tmp 12,_)] [y3.2] rfl rfl dX (.cons rfl .int .nil) rfl rfl) ?_;obtain⟨u8,j,h⟩:=aa h;refine dZ rfl rfl rfl (cu rfl rfl dX (au j)) ⟨rfl,rfl,trivial⟩ λv9=>?_;refine aq (aD (bn ?_));exact jz (v9,y3.1++[y3.2]) h [0]
    .refine bj (bn ?_);exact jz (z4,y3.1) h [0]
   .refine ab ?_;obtain⟨e,c,h⟩:=aa h;refine jb (bA rfl c) ?_;refine mq (nl ?_);exact jz (z6,(x5,e)) h [0]
  .refine xa ?_;exact jz (z4,y3.1) h [0]
 .
  refine sr (mq ?_);refine aq (nt (aF ?_));refine bK (jk [2,3,16] ⟨rfl,rfl,rfl,trivial⟩) ?_;cases h;exact ra
def dn(k:Nat)(a0:ae)(a1:(List (List Int))):Nat->Int->Option (Except Bool Unit)
 |0,_=>none
 |n+1,y5=>
  if y5 < (a1.length:Int) then((aG a1 y5).bind λx7=>
  if¬((x7.length:Int)=a0.1) then(some (.error false)) else((ck (y5+1)).bind λx8=>
  dn k a0 a1 n x8)) else(some (.ok ()))
def fC(k:Nat)(a0:ae)(a1:(List (List Int))):Option Bool:=
 (ck ((a0.2.2.2.2.1.length:Int)+1)).bind λx2=>
 if¬((a1.length:Int)=x2) then(some false) else(bE (α:=Unit) (dn k a0 a1 k 0) (some) λ_=>
 some true)
theorem rJ(k:Nat)(a0:ae)(a1:(List (List Int)))(r:Bool)(h:fC k a0 a1=some r):
 dG Tryz.prog 12 [.rep ap a0,.rep (.slice Tl) a1] [] (λ_:Unit=>(bO [.eq (.bool r)],[])):=by
 unfold fC at h
 replace h:=bp h
 refine dG.of 27 Tryz.func12 rfl Tryz.ntmps12 rfl λS w0=>?_
 refine sr ?_
 refine bx λb1=>?_
 refine cq ?_
 refine nt ?_
 refine am ?_
 refine sr ?_
 refine mq ?_
 refine ol qP ?_
 refine fl cS ?_
 refine lo gG ?_
 refine ol xw ?_
 obtain⟨x2,l,h⟩:=aa h
 refine jb (bA rfl l) ?_
 refine jb (eX rfl) ?_
 refine nt ?_
 refine cn h (λh=>?_) (λh=>?_)
 .
  refine sr (cq (nt (rx ?_)));cases h;exact ra
 .
  refine sk (dU (Z:=Unit) (α:=Unit) (λz4 x3=>[]) (λz4 x3=>[]) (λe=>e=r) h (λe h=>Option.some.inj h) (λK hR h=>?_) (λz4 x3 h=>?_))
  .refine sr (cq (nt (ak ?_)));refine aH (λz6 y5=>[(1,.rep (.slice Tl) a1),(2,Pt b1),(5,I y5)]) (λz6 y5=>[.obj b1 28 (.rep ap a0)]) (dn k a0 a1) k () 0 (λ_=>rfl) h (SE.fin [0] ⟨rfl,rfl,rfl,trivial⟩ rfl) (λn z6 y5 h=>?_);unfold dn at h;refine am (sr ?_);iterate 2 refine mq ?_
   refine ol qP ?_;refine jb (bG rfl) ?_;refine nt (ci h (λh=>?_) (λh=>?_))
   .refine sk (am (ak (am (cN ?_))));refine dm ?_;refine dm ?_;obtain⟨x7,j,h⟩:=aa h;refine db (aU (t:=Tl) rfl qP ii j) ?_;refine da (ay (t:=Tl) rfl ii rfl) ?_;refine da (nP rfl rfl ix) ?_;refine da (aA rfl ge) ?_;refine ea 0 (ax rfl cL nY rfl) ?_;refine df d4 ?_;refine jb (eX rfl) ?_;refine nt (cn h (λh=>?_) (λh=>?_))
    .refine sr (cq (nt (aF (br (bP (bM ?_))))));obtain rfl:=hR _ h;exact ra
    .refine bj (aR (tn (ab (mq ?_))));obtain⟨x8,c,h⟩:=aa h;refine jb (bA rfl c) ?_;refine aq (nl ?_);exact jz ((),x8) h [0]
   .refine xa ?_;exact jz ((),()) h []
  .refine sr (cq (nt (aF ?_)));cases h;exact ra
def lB(k:Nat)(a0:Int)(a1:Int)(a2:Bool):Option an:=
 some (a0,a1,a2)
theorem mB(k:Nat)(a0:Int)(a1:Int)(a2:Bool)(r:an)(h:lB k a0 a1 a2=some r):
 dG Tryz.prog 48 [I a0,I a1,.eq (.bool a2)] [] (λ_:Unit=>(bO [.rep ah r],[])):=by
 unfold lB at h
 replace h:=bp h
 refine dG.of 11 Tryz.func48 rfl Tryz.ntmps48 rfl λS w0=>?_
 refine sr ?_
 refine aX rfl rfl rfl (bo rfl EY Na) trivial λb1=>?_
 refine nt ?_
 refine sr ?_
 iterate 3 refine mq ?_
 refine jc (eo [(0,.tmp 7,_),(1,.tmp 8,_),(2,.tmp 9,_)] rfl Q3 EY Of (jM ⟨rfl,rfl,rfl,trivial⟩) rfl) ?_
 refine aP rfl rfl (aM rfl sw trivial rfl rfl) ⟨rfl,rfl,trivial⟩ ?_
 refine nt ?_
 refine aF ?_
 refine bK (ib (a:=.agg (.pair (I a0) (.pair (I a1) (.eq (.bool a2))))) (a':=.rep ah (a0,a1,a2)) (jD (.agg (.pair .int (.pair .int .bool))))) ?_
 cases h
 exact aQ () [.rep ah (a0,a1,a2)] 0 ⟨⟨_,_,_,_,_,rfl,(.head _),sw,(tP),rfl⟩,trivial⟩ rfl
def iN(k:Nat)(a0:(List an)):Option ae:=
 (lB k 1 2 true).bind λr2=>
 (lB k 2 1 false).bind λr3=>
 (lB k 3 3 false).bind λr4=>
 (cM (bN (length [r2,r3,r4]+length a0))).bind λ_=>
 some (4,1,1,2,[[[0,1,2],[3]],[[0,1],[2,3]],[[1,2,3]],[[1,3],[2]]],[r2,r3,r4]++a0)
theorem g9(k:Nat)(a0:(List an))(r:ae)(h:iN k a0=some r):
 dG Tryz.prog 24 [Rs ah a0] [] (λ_:Unit=>(bO [.rep ap r],[])):=by
 unfold iN at h
 replace h:=bp h
 refine dG.of 24 Tryz.func24 rfl Tryz.ntmps24 rfl λS w0=>?_
 refine sr ?_
 refine aX rfl rfl rfl (bo rfl vS AW) trivial λb1=>?_
 refine nt ?_
 refine sr ?_
 obtain⟨r2,l,h⟩:=aa h
 have u:=mB k 1 2 true r2 l
 refine jc (aC [.const (.int .i64 (1)),.const (.int .i64 (2)),.const (.bool true)] rfl rfl PX rfl u) ?_
 obtain⟨r3,j,h⟩:=aa h
 have s:=mB k 2 1 false r3 j
 refine jc (aC [.const (.int .i64 (2)),.const (.int .i64 (1)),.const (.bool false)] rfl rfl PX rfl s) ?_
 obtain⟨r4,e,h⟩:=aa h
 have n:=mB k 3 3 false r4 e
 refine jc (aC [.const (.int .i64 (3)),.const (.int .i64 (3)),.const (.bool false)] rfl rfl PX rfl n) ?_
 refine aX rfl rfl rfl (lu (t:=ah) [(.tmp 4,_),(.tmp 5,_),(.tmp 6,_)] [r2,r3,r4] rfl rfl Fa (.cons rfl .rep (.cons rfl .rep (.cons rfl .rep .nil))) rfl rfl) ⟨rfl,rfl,rfl,trivial⟩ λv5=>?_
 refine aq ?_
 refine nt ?_
 refine sr ?_
 refine jc (bf (t:=Ti) [(.const (.int .i64 (0)),_),(.const (.int .i64 (1)),_),(.const (.int .i64 (2)),_)] [0,1,2] rfl rfl dX (.cons rfl .int (.cons rfl .int (.cons rfl .int .nil))) rfl rfl) ?_
 refine ja (bf (t:=Ti) [(.const (.int .i64 (3)),_)] [3] rfl rfl dX (.cons rfl .int .nil) rfl rfl) ?_
 refine jb (bf (t:=Tl) [(.tmp 8,_),(.tmp 9,_)] [[0,1,2],[3]] rfl rfl nX (.cons rfl .rep (.cons rfl .rep .nil)) rfl rfl) ?_
 refine jb (bf (t:=Ti) [(.const (.int .i64 (0)),_),(.const (.int .i64 (1)),_)] [0,1] rfl rfl dX (.cons rfl .int (.cons rfl .int .nil)) rfl rfl) ?_
 refine jb (bf (t:=Ti) [(.const (.int .i64 (2)),_),(.const (.int .i64 (3)),_)] [2,3] rfl rfl dX (.cons rfl .int (.cons rfl .int .nil)) rfl rfl) ?_
 refine jb (bf (t:=Tl) [(.tmp 11,_),(.tmp 12,_)] [[0,1],[2,3]] rfl rfl nX (.cons rfl .rep (.cons rfl .rep .nil)) rfl rfl) ?_
 refine jc (bf (t:=Ti) [(.const (.int .i64 (1)),_),(.const (.int .i64 (2)),_),(.const (.int .i64 (3)),_)] [1,2,3] rfl rfl dX (.cons rfl .int (.cons rfl .int (.cons rfl .int .nil))) rfl rfl) ?_
 refine ja (bf (t:=Tl) [(.tmp 14,_)] [[1,2,3]] rfl rfl nX (.cons rfl .rep .nil) rfl rfl) ?_
 refine jb (bf (t:=Ti) [(.const (.int .i64 (1)),_),(.const (.int .i64 (3)),_)] [1,3] rfl rfl dX (.cons rfl .int (.cons rfl .int .nil)) rfl rfl) ?_
 refine ja (bf (t:=Ti) [(.const (.int .i64 (2)),_)] [2] rfl rfl dX (.cons rfl .int .nil) rfl rfl) ?_
 refine jb (bf (t:=Tl) [(.tmp 16,_),(.tmp 17,_)] [[1,3],[2]] rfl rfl nX (.cons rfl .rep (.cons rfl .rep .nil)) rfl rfl) ?_
 refine bh rfl (bf (t:=(.slice Tl)) [(.tmp 10,_),(.tmp 13,_),(.tmp 15,_),(.tmp 18,_)] [[[0,1,2],[3]],[[0,1],[2,3]],[[1,2,3]],[[1,3],[2]]] rfl rfl uD (.cons rfl .rep (.cons rfl .rep (.cons rfl .rep (.cons rfl .rep .nil)))) rfl rfl) ⟨rfl,rfl,rfl,rfl,trivial⟩ ?_
 iterate 2 refine mq ?_
 obtain⟨u6,c,h⟩:=aa h
 refine dZ rfl rfl rfl (cu rfl rfl Fa (au c)) ⟨rfl,rfl,trivial⟩ λv7=>?_
 refine dM (jk [22] ⟨rfl,trivial⟩) ?_
 refine bh rfl (eo [(0,.const (.int .i64 (4)),_),(1,.const (.int .i64 (1)),_),(2,.const (.int .i64 (1)),_),(3,.const (.int .i64 (2)),_),(4,.tmp 19,_),(5,.tmp 22,_)] rfl Q4 vS Og (jM ⟨rfl,rfl,rfl,rfl,rfl,rfl,trivial⟩) rfl) ⟨rfl,rfl,rfl,rfl,rfl,rfl,trivial⟩ ?_
 refine aP rfl rfl (aM rfl gC trivial rfl rfl) ⟨rfl,rfl,trivial⟩ ?_
 refine nt ?_
 refine aF ?_
 refine bK (ib (a:=.agg (.pair (I 4) (.pair (I 1) (.pair (I 1) (.pair (I 2) (.pair (.rep (.slice (.slice Tl)) [[[0,1,2],[3]],[[0,1],[2,3]],[[1,2,3]],[[1,3],[2]]]) (Rs ah ([r2,r3,r4]++a0)))))))) (a':=.rep ap (4,1,1,2,[[[0,1,2],[3]],[[0,1],[2,3]],[[1,2,3]],[[1,3],[2]]],[r2,r3,r4]++a0)) (jD (.agg (.pair .int (.pair .int (.pair .int (.pair .int (.pair .rep .rep)))))))) ?_
 cases h
 exact aQ () [.rep ap (4,1,1,2,[[[0,1,2],[3]],[[0,1],[2,3]],[[1,2,3]],[[1,3],[2]]],[r2,r3,r4]++a0)] 0 ⟨⟨_,_,_,_,_,rfl,(.head _),gC,(tP),rfl⟩,trivial⟩ rfl
def iT(k:Nat)(a0:(List Int)):Nat->(Int×Int)->Option Int
 |0,_=>none
 |n+1,y4=>
  if y4.2 < (a0.length:Int) then((aG a0 y4.2).bind λx6=>
  (ck (y4.2+1)).bind λx7=>
  iT k a0 n (IR y4.1 x6,x7)) else(some y4.1)
def lU(k:Nat)(a0:(List Int)):Option Int:=
 if(a0.length:Int) < 1 then(none) else((aG a0 0).bind λx1=>
 ((iT k a0 k (x1,1)):Option (Int)).bind λx2=>
 some x2)
theorem ot(k:Nat)(a0:(List Int))(r:Int)(h:lU k a0=some r):
 dG Tryz.prog 51 [.rep Tl a0] [] (λ_:Unit=>(bO [I r],[])):=by
 unfold lU at h
 replace h:=bp h
 refine dG.of 25 Tryz.func51 rfl Tryz.ntmps51 rfl λS w0=>?_
 refine sr ?_
 refine cq ?_
 refine nt ?_
 refine am ?_
 refine sr ?_
 refine mq ?_
 refine ol ix ?_
 refine jb (bG rfl) ?_
 refine nt ?_
 refine ci h (λh=>?_) (λh=>?_)
 .
  cases h
 .
  refine sk (sr (mq ?_));obtain⟨x1,j,h⟩:=aa h;refine jb (aU (t:=Ti) rfl ix cL j) ?_;refine ja (ay (t:=Ti) rfl cL rfl) ?_;refine aq (nt ?_);refine aJ (Z:=Unit) (α:=Int) (λz3 x2=>[(3,I x2)]) (λz3 x2=>[]) h (λK h=>?_) (λz3 x2 h=>?_)
  .refine sr (cq (nt (ak ?_)));refine aH (λz5 y4=>[(0,.rep Tl a0),(3,I y4.1),(4,I y4.2)]) (λz5 y4=>[]) (iT k a0) k () (x1,1) (λ_=>rfl) h (SE.fin [] ⟨rfl,rfl,rfl,trivial⟩ rfl) (λn z5 y4 h=>?_);unfold iT at h;refine am (sr ?_);iterate 2 refine mq ?_
   refine ol ix ?_;refine jb (bG rfl) ?_;refine nt (ci h (λh=>?_) (λh=>?_))
   .refine sk (am (ak (ab ?_)));iterate 3 refine mq ?_
    obtain⟨x6,e,h⟩:=aa h;refine jb (aU (t:=Ti) rfl ix cL e) ?_;refine ja (ay (t:=Ti) rfl cL rfl) ?_;refine jb (Rb rfl rfl) ?_;refine aq (aD (aR (tn (ab ?_))));refine mq ?_;obtain⟨x7,c,h⟩:=aa h;refine jb (bA rfl c) ?_;refine aq (nl ?_);exact jz ((),(IR y4.1 x6,x7)) h []
   .refine xa ?_;exact jz ((),y4.1) h []
  .refine sr (mq ?_);refine aq (nt (aF ?_));cases h;exact ra
def iU(k:Nat)(a0:(List Int)):Nat->(Int×Int)->Option Int
 |0,_=>none
 |n+1,y4=>
  if y4.2 < (a0.length:Int) then((aG a0 y4.2).bind λx6=>
  (ck (y4.2+1)).bind λx7=>
  iU k a0 n (td y4.1 x6,x7)) else(some y4.1)
def ou(k:Nat)(a0:(List Int)):Option Int:=
 if(a0.length:Int) < 1 then(none) else((aG a0 0).bind λx1=>
 ((iU k a0 k (x1,1)):Option (Int)).bind λx2=>
 some x2)
theorem uC(k:Nat)(a0:(List Int))(r:Int)(h:ou k a0=some r):
 dG Tryz.prog 52 [.rep Tl a0] [] (λ_:Unit=>(bO [I r],[])):=by
 unfold ou at h
 replace h:=bp h
 refine dG.of 25 Tryz.func52 rfl Tryz.ntmps52 rfl λS w0=>?_
 refine sr ?_
 refine cq ?_
 refine nt ?_
 refine am ?_
 refine sr ?_
 refine mq ?_
 refine ol ix ?_
 refine jb (bG rfl) ?_
 refine nt ?_
 refine ci h (λh=>?_) (λh=>?_)
 .
  cases h
 .
  refine sk (sr (mq ?_));obtain⟨x1,j,h⟩:=aa h;refine jb (aU (t:=Ti) rfl ix cL j) ?_;refine ja (ay (t:=Ti) rfl cL rfl) ?_;refine aq (nt ?_);refine aJ (Z:=Unit) (α:=Int) (λz3 x2=>[(3,I x2)]) (λz3 x2=>[]) h (λK h=>?_) (λz3 x2 h=>?_)
  .refine sr (cq (nt (ak ?_)));refine aH (λz5 y4=>[(0,.rep Tl a0),(3,I y4.1),(4,I y4.2)]) (λz5 y4=>[]) (iU k a0) k () (x1,1) (λ_=>rfl) h (SE.fin [] ⟨rfl,rfl,rfl,trivial⟩ rfl) (λn z5 y4 h=>?_);unfold iU at h;refine am (sr ?_);iterate 2 refine mq ?_
   refine ol ix ?_;refine jb (bG rfl) ?_;refine nt (ci h (λh=>?_) (λh=>?_))
   .refine sk (am (ak (ab ?_)));iterate 3 refine mq ?_
    obtain⟨x6,e,h⟩:=aa h;refine jb (aU (t:=Ti) rfl ix cL e) ?_;refine ja (ay (t:=Ti) rfl cL rfl) ?_;refine jb (H6 rfl rfl) ?_;refine aq (aD (aR (tn (ab ?_))));refine mq ?_;obtain⟨x7,c,h⟩:=aa h;refine jb (bA rfl c) ?_;refine aq (nl ?_);exact jz ((),(td y4.1 x6,x7)) h []
   .refine xa ?_;exact jz ((),y4.1) h []
  .refine sr (mq ?_);refine aq (nt (aF ?_));cases h;exact ra
def fX(k:Nat):Nat->((List Int)×Int×Int)->Option (List Int)
 |0,_=>none
 |n+1,y2=>
  if y2.2.1 < y2.2.2 then((aG y2.1 y2.2.2).bind λx4=>
  (aG y2.1 y2.2.1).bind λx5=>
  (aG y2.1 y2.2.1).bind λx6=>
  (aG (List.set y2.1 (Int.toNat y2.2.1) x4) y2.2.2).bind λx7=>
  (ck (y2.2.1+1)).bind λx8=>
  (ck (y2.2.2 - 1)).bind λx9=>
  fX k n (List.set (List.set y2.1 (Int.toNat y2.2.1) x4) (Int.toNat y2.2.2) x5,x8,x9)) else(some y2.1)
def kj(k:Nat)(a0:(List Int)):Option (List Int):=
 (ck ((a0.length:Int) - 1)).bind λx1=>
 fX k k (a0,0,x1)
theorem qf(k:Nat)(a0:(List Int))(c:Value)(r:(List Int))(h:kj k a0=some r):
 dG Tryz.prog 54 [.eq c] [.sl c 3 Ti a0] (λ_:Unit=>(bO [],[.sl c 3 Ti r])):=by
 unfold kj at h
 replace h:=bp h
 refine dG.of 28 Tryz.func54 rfl Tryz.ntmps54 rfl λS w0=>?_
 refine sr ?_
 refine mq ?_
 refine ka (iL rfl rfl ix) ?_
 obtain⟨x1,mc,h⟩:=aa h
 refine jb (eA rfl mc) ?_
 refine cq ?_
 refine aq ?_
 refine nt ?_
 refine ak ?_
 refine aH (λz3 y2=>[(0,.eq c),(2,I y2.2.1),(3,I y2.2.2)]) (λz3 y2=>[.sl c 3 Ti y2.1]) (fX k) k () (a0,0,x1) (λ_=>rfl) h (SE.fin [0] ⟨rfl,rfl,rfl,trivial⟩ rfl) (λn z3 y2 h=>?_)
 unfold fX at h
 refine am ?_
 refine sr ?_
 iterate 2 refine mq ?_
 refine jb (bG rfl) ?_
 refine nt ?_
 refine ci h (λh=>?_) (λh=>?_)
 .
  refine sk (am (ak (sa ?_)));refine bY rfl rfl rfl (bL rfl) ⟨rfl,trivial⟩ ?_;refine bY rfl rfl rfl (bL rfl) ⟨rfl,trivial⟩ ?_;refine bY rfl rfl rfl (bL rfl) ⟨rfl,trivial⟩ ?_;refine bY rfl rfl rfl (bL rfl) ⟨rfl,trivial⟩ ?_;refine bY rfl rfl rfl (bL rfl) ⟨rfl,trivial⟩ ?_;refine bY rfl rfl rfl (bL rfl) ⟨rfl,trivial⟩ ?_;obtain⟨x4,D,h⟩:=aa h;refine il 0 rfl rfl rfl rfl (bJ (t:=Ti) rfl ix cL D) ⟨rfl,rfl,trivial⟩ ?_;refine il 0 rfl rfl rfl rfl (eR (i:=Int.toNat y2.2.2) (off:=0) rfl cL (λ_=>rfl) rfl (cP D).2.2 rfl) ⟨rfl,trivial⟩ ?_;refine bY rfl rfl rfl (bL rfl) ⟨rfl,trivial⟩ ?_;refine bY rfl rfl rfl (bL rfl) ⟨rfl,trivial⟩ ?_;obtain⟨x5,y,h⟩:=aa h;refine il 0 rfl rfl rfl rfl (bJ (t:=Ti) rfl ix cL y) ⟨rfl,rfl,trivial⟩ ?_;refine il 0 rfl rfl rfl rfl (eR (i:=Int.toNat y2.2.1) (off:=0) rfl cL (λ_=>rfl) rfl (cP y).2.2 rfl) ⟨rfl,trivial⟩ ?_;obtain⟨x6,x,h⟩:=aa h;refine il 0 rfl rfl rfl rfl (bJ (t:=Ti) rfl ix cL x) ⟨rfl,rfl,trivial⟩ ?_;refine vE 13 [true,true,false,false,true,true,true,true,true,true,true,true,true] [27] [] [] rfl (by kernel_rfl) (by kernel_rfl) (by kernel_rfl) d4 (λvs hv hB=>?_);obtain⟨w0,VP,rfl,Y⟩:=aE hv;obtain⟨w1,VO,rfl,X⟩:=aE Y;obtain⟨w2,VN,rfl,U⟩:=aE X;obtain⟨w3,VM,rfl,Q⟩:=aE U;obtain⟨w4,VL,rfl,O⟩:=aE Q;obtain⟨w5,VK,rfl,M⟩:=aE O;obtain⟨w6,VJ,rfl,J⟩:=aE M;obtain⟨w7,VI,rfl,F⟩:=aE J;obtain⟨w8,VH,rfl,E⟩:=aE F;obtain⟨w9,zz,rfl,s⟩:=aE E;obtain⟨VG,qt,rfl,l⟩:=aE s;obtain⟨VF,mw,rfl,j⟩:=aE l;obtain⟨VE,mt,rfl,e⟩:=aE j;obtain rfl:=rI e;refine⟨[0],[.sl c 3 Ti y2.1],by kernel_rfl,by decide,?_⟩;refine tH rfl rfl (fO (i:=Int.toNat y2.2.1) rfl cL rfl (mg x) rfl .int rfl) ⟨rfl,rfl,trivial⟩ (by kernel_rfl) ?_;obtain⟨x7,u,h⟩:=aa h;refine vC rfl rfl rfl rfl (bJ (t:=Ti) rfl ix cL u) ⟨rfl,rfl,trivial⟩ (by kernel_rfl) ?_;refine tH rfl rfl (fO (i:=Int.toNat y2.2.2) rfl cL rfl (mg u) rfl .int rfl) ⟨rfl,rfl,trivial⟩ (by kernel_rfl) ?_;refine yR ?_;refine bK (SE.fin (Γ':=[(0,.eq c),(2,I y2.2.1),(3,I y2.2.2)]) (Δ':=[.sl c 3 Ti (List.set (List.set y2.1 (Int.toNat y2.2.1) x4) (Int.toNat y2.2.2) x5)]) [0] ⟨rfl,rfl,rfl,trivial⟩ rfl) ?_;refine aR (tn (ab (mq ?_)));obtain⟨x8,gw,h⟩:=aa h;refine jb (bA rfl gw) ?_;refine mq ?_;obtain⟨x9,Z,h⟩:=aa h;refine jb (eA rfl Z) ?_;refine aq ?_;refine aq (nl ?_);exact jz ((),(List.set (List.set y2.1 (Int.toNat y2.2.1) x4) (Int.toNat y2.2.2) x5,x8,x9)) h [0]
 .
  refine eO (bi (bi (cT (j8 ?_))));cases h;exact aQ () [] 1 trivial rfl
def kK(k:Nat)(a0:Int):Option Int:=
 (f8 k a0).bind λr1=>
 some (r1.length:Int)
theorem nS(k:Nat)(a0:Int)(r:Int)(h:kK k a0=some r):
 dG Tryz.prog 61 [.eq (.int .u8 a0)] [] (λ_:Unit=>(bO [I r],[])):=by
 unfold kK at h
 replace h:=bp h
 refine dG.of 6 Tryz.func61 rfl Tryz.ntmps61 rfl λS w0=>?_
 refine sr ?_
 refine cq ?_
 refine nt ?_
 refine sr ?_
 refine mq ?_
 obtain⟨r1,c,h⟩:=aa h
 have e:=kw k a0 r1 c
 refine ja (aC [.tmp 3] rfl rfl P1 rfl e) ?_
 refine ol ix ?_
 refine aq ?_
 refine nt ?_
 refine aF ?_
 cases h
 exact ra
def nD(k:Nat)(a0:Int)(a1:Int):Option Int:=
 (kK k a0).bind λr1=>
 (kK k a1).bind λr2=>
 (ck (r1 - r2)).bind λx3=>
 some x3
theorem t7(k:Nat)(a0:Int)(a1:Int)(c:Nat)(r:Int)(h:nD k a0 a1=some r):
 dG Tryz.prog 78 [.eq (.int .u8 a0),.eq (.int .u8 a1),Pt c] [.obj c 117 (.eq (.func (.func 61) #[] #[]))] (λ_:Unit=>(bO [I r],[.obj c 117 (.eq (.func (.func 61) #[] #[]))])):=by
 unfold nD at h
 replace h:=bp h
 refine dG.of 13 Tryz.func78 rfl Tryz.ntmps78 rfl λS w0=>?_
 refine sr ?_
 refine cq ?_
 refine nt ?_
 refine am ?_
 refine cN ?_
 refine ea 0 (ax rfl NZ nY rfl) ?_
 refine dm ?_
 obtain⟨r1,l,h⟩:=aa h
 have s:=nS k a0 r1 l
 refine db (ug (fs:=[]) (cs:=[]) (ags:=[.eq (.int .u8 a0)]) [.tmp 7] rfl rfl RX rfl s) ?_
 refine ea 0 (ax rfl NZ nY rfl) ?_
 refine dm ?_
 refine df d4 ?_
 obtain⟨r2,j,h⟩:=aa h
 have n:=nS k a1 r2 j
 refine jb (ug (fs:=[]) (cs:=[]) (ags:=[.eq (.int .u8 a1)]) [.tmp 10] rfl rfl RX rfl n) ?_
 obtain⟨x3,e,h⟩:=aa h
 refine jb (eA rfl e) ?_
 refine aq ?_
 refine nt ?_
 refine aF ?_
 cases h
 exact aQ () [_] 1 ⟨rfl,trivial⟩ rfl
def fY(k:Nat)(a0:(List Int)):Nat->(Int×Int)->Option Int
 |0,_=>none
 |n+1,y4=>
  if y4.2 < (a0.length:Int) then((((aG a0 y4.2).bind λx8=>
  (nD k x8 y4.1).bind λr9=>
  if r9 < 0 then((aG a0 y4.2).bind λe=>
  some e) else(some y4.1)):Option (Int)).bind λx6=>
  (ck (y4.2+1)).bind λc=>
  fY k a0 n (x6,c)) else(some y4.1)
def kl(k:Nat)(a0:(List Int)):Option Int:=
 if(a0.length:Int) < 1 then(none) else((aG a0 0).bind λx1=>
 ((fY k a0 k (x1,1)):Option (Int)).bind λx2=>
 some x2)
theorem qg(k:Nat)(a0:(List Int))(c_a1_0:Nat)(r:Int)(h:kl k a0=some r):
 dG Tryz.prog 77 [.rep (.slice (.int .u8)) a0,.eq (.func (.func 78) #[] #[(Pv c_a1_0)])] [.obj c_a1_0 117 (.eq (.func (.func 61) #[] #[]))] (λ_:Unit=>(bO [.eq (.int .u8 r)],[.obj c_a1_0 117 (.eq (.func (.func 61) #[] #[]))])):=by
 unfold kl at h
 replace h:=bp h
 refine dG.of 33 Tryz.func77 rfl Tryz.ntmps77 rfl λS w0=>?_
 refine sr ?_
 refine cq ?_
 refine nt ?_
 refine am ?_
 refine sr ?_
 refine mq ?_
 refine ol Bq ?_
 refine jb (bG rfl) ?_
 refine nt ?_
 refine ci h (λh=>?_) (λh=>?_)
 .
  cases h
 .
  refine sk (sr (mq ?_));obtain⟨x1,u,h⟩:=aa h;refine jb (aU (t:=(.int .u8)) rfl Bq qc u) ?_;refine ja (ay (t:=(.int .u8)) rfl qc rfl) ?_;refine aq (nt ?_);refine aJ (Z:=Unit) (α:=Int) (λz3 x2=>[(5,.eq (.int .u8 x2))]) (λz3 x2=>[.obj c_a1_0 117 (.eq (.func (.func 61) #[] #[]))]) h (λK h=>?_) (λz3 x2 h=>?_)
  .refine sr (cq (nt (ak ?_)));refine aH (λz5 y4=>[(0,.rep (.slice (.int .u8)) a0),(1,.eq (.func (.func 78) #[] #[(Pv c_a1_0)])),(5,.eq (.int .u8 y4.1)),(6,I y4.2)]) (λz5 y4=>[.obj c_a1_0 117 (.eq (.func (.func 61) #[] #[]))]) (fY k a0) k () (x1,1) (λ_=>rfl) h (SE.fin [0] ⟨rfl,rfl,rfl,rfl,trivial⟩ rfl) (λn z5 y4 h=>?_);unfold fY at h;refine am (sr ?_);iterate 2 refine mq ?_
   refine ol Bq ?_;refine jb (bG rfl) ?_;refine nt (ci h (λh=>?_) (λh=>?_))
   .refine sk (aJ (Z:=Unit) (α:=Int) (λz7 x6=>[(0,.rep (.slice (.int .u8)) a0),(1,.eq (.func (.func 78) #[] #[(Pv c_a1_0)])),(5,.eq (.int .u8 x6)),(6,I y4.2)]) (λz7 x6=>[.obj c_a1_0 117 (.eq (.func (.func 61) #[] #[]))]) h (λK h=>?_) (λz7 x6 h=>?_))
    .refine ak (sr ?_);iterate 3 refine mq ?_
     obtain⟨x8,s,h⟩:=aa h;refine jb (aU (t:=(.int .u8)) rfl Bq qc s) ?_;refine ja (ay (t:=(.int .u8)) rfl qc rfl) ?_;refine mq ?_;obtain⟨r9,x,h⟩:=aa h;refine kc (ug (fs:=[]) (cs:=[(Pv c_a1_0)]) (ags:=[.eq (.int .u8 x8),.eq (.int .u8 y4.1)]) [.tmp 24,.tmp 25] rfl rfl Uo rfl (t7 k x8 y4.1 c_a1_0 r9 x)) ?_;refine jb (bG rfl) ?_;refine nt (ci h (λh=>?_) (λh=>?_))
     .refine ab ?_;iterate 2 refine mq ?_
      obtain⟨l,e,h⟩:=aa h;refine jb (aU (t:=(.int .u8)) rfl Bq qc e) ?_;refine ja (ay (t:=(.int .u8)) rfl qc rfl) ?_;refine aq (aD (bn ?_));exact jz ((),l) h [0]
     .refine bj (bn ?_);exact jz ((),y4.1) h [0]
    .refine ab (mq ?_);obtain⟨j,c,h⟩:=aa h;refine jb (bA rfl c) ?_;refine aq (nl ?_);exact jz ((),(x6,j)) h [0]
   .refine xa ?_;exact jz ((),y4.1) h [0]
  .refine sr (mq ?_);refine aq (nt (aF ?_));cases h;exact aQ () [_] 1 ⟨rfl,trivial⟩ rfl
def qw(k:Nat)(a0:(List Int)):Option Int:=
 (kl k a0).bind λr2=>
 some r2
theorem wj(k:Nat)(a0:(List Int))(r:Int)(h:qw k a0=some r):
 dG Tryz.prog 60 [.rep (.slice (.int .u8)) a0,.eq (.func (.func 61) #[] #[])] [] (λ_:Unit=>(bO [.eq (.int .u8 r)],[])):=by
 unfold qw at h
 replace h:=bp h
 refine dG.of 8 Tryz.func60 rfl Tryz.ntmps60 rfl λS w0=>?_
 refine sr ?_
 refine bx λb1=>?_
 refine cq ?_
 refine nt ?_
 refine sr ?_
 refine mq ?_
 refine ja (sG [] [.tmp 3] [] [(Pv b1)] rfl rfl rfl) ?_
 obtain⟨r2,c,h⟩:=aa h
 have e:=qg k a0 b1 r2 c
 refine kb (aC [.tmp 5,.tmp 6] rfl rfl Up rfl e) ?_
 refine aq ?_
 refine nt ?_
 refine aF ?_
 cases h
 exact ra
def iG(k:Nat)(a0:(List Int))(a1:(List Int)):Nat->Int->Option (Except Bool Unit)
 |0,_=>none
 |n+1,y3=>
  if y3 < (a0.length:Int) then((aG a0 y3).bind λx5=>
  (aG a1 y3).bind λx6=>
  if¬(x5=x6) then(some (.error false)) else((ck (y3+1)).bind λx7=>
  iG k a0 a1 n x7)) else(some (.ok ()))
def jf(k:Nat)(a0:(List Int))(a1:(List Int)):Option Bool:=
 if¬((a0.length:Int)=(a1.length:Int)) then(some false) else(bE (α:=Unit) (iG k a0 a1 k 0) (some) λ_=>
 some true)
theorem ky(k:Nat)(a0:(List Int))(a1:(List Int))(r:Bool)(h:jf k a0 a1=some r):
 dG Tryz.prog 30 [.rep Tl a0,.rep Tl a1] [] (λ_:Unit=>(bO [.eq (.bool r)],[])):=by
 unfold jf at h
 replace h:=bp h
 refine dG.of 26 Tryz.func30 rfl Tryz.ntmps30 rfl λS w0=>?_
 refine sr ?_
 refine cq ?_
 refine nt ?_
 refine am ?_
 refine sr ?_
 refine mq ?_
 refine ol ix ?_
 refine mq ?_
 refine ol ix ?_
 refine jb (eX rfl) ?_
 refine nt ?_
 refine cn h (λh=>?_) (λh=>?_)
 .
  refine sr (cq (nt (rx ?_)));cases h;exact ra
 .
  refine sk (dU (Z:=Unit) (α:=Unit) (λz2 x1=>[]) (λz2 x1=>[]) (λe=>e=r) h (λe h=>Option.some.inj h) (λK hR h=>?_) (λz2 x1 h=>?_))
  .refine sr (cq (nt (ak ?_)));refine aH (λz4 y3=>[(0,.rep Tl a0),(1,.rep Tl a1),(5,I y3)]) (λz4 y3=>[]) (iG k a0 a1) k () 0 (λ_=>rfl) h (SE.fin [] ⟨rfl,rfl,rfl,trivial⟩ rfl) (λn z4 y3 h=>?_);unfold iG at h;refine am (sr ?_);iterate 2 refine mq ?_
   refine ol ix ?_;refine jb (bG rfl) ?_;refine nt (ci h (λh=>?_) (λh=>?_))
   .refine sk (am (ak (am (cN ?_))));refine dm ?_;refine dm ?_;obtain⟨x5,l,h⟩:=aa h;refine db (aU (t:=Ti) rfl ix cL l) ?_;refine da (ay (t:=Ti) rfl cL rfl) ?_;refine dm ?_;refine dm ?_;obtain⟨x6,j,h⟩:=aa h;refine db (aU (t:=Ti) rfl ix cL j) ?_;refine da (ay (t:=Ti) rfl cL rfl) ?_;refine df d4 ?_;refine jb (eX rfl) ?_;refine nt (cn h (λh=>?_) (λh=>?_))
    .refine sr (cq (nt (aF (br (bP (bM ?_))))));obtain rfl:=hR _ h;exact ra
    .refine bj (aR (tn (ab (mq ?_))));obtain⟨x7,c,h⟩:=aa h;refine jb (bA rfl c) ?_;refine aq (nl ?_);exact jz ((),x7) h []
   .refine xa ?_;exact jz ((),()) h []
  .refine sr (cq (nt (aF ?_)));cases h;exact ra
def hP(k:Nat)(a0:(List (List Int)))(a1:(List (List Int))):Nat->Int->Option (Except Bool Unit)
 |0,_=>none
 |n+1,y3=>
  if y3 < (a0.length:Int) then((aG a0 y3).bind λx5=>
  (aG a1 y3).bind λx6=>
  (jf k x5 x6).bind λr7=>
  if¬(r7=true) then(some (.error false)) else((ck (y3+1)).bind λx8=>
  hP k a0 a1 n x8)) else(some (.ok ()))
def jJ(k:Nat)(a0:(List (List Int)))(a1:(List (List Int))):Option Bool:=
 if¬((a0.length:Int)=(a1.length:Int)) then(some false) else(bE (α:=Unit) (hP k a0 a1 k 0) (some) λ_=>
 some true)
theorem m9(k:Nat)(a0:(List (List Int)))(a1:(List (List Int)))(r:Bool)(h:jJ k a0 a1=some r):
 dG Tryz.prog 29 [.rep (.slice Tl) a0,.rep (.slice Tl) a1] [] (λ_:Unit=>(bO [.eq (.bool r)],[])):=by
 unfold jJ at h
 replace h:=bp h
 refine dG.of 27 Tryz.func29 rfl Tryz.ntmps29 rfl λS w0=>?_
 refine sr ?_
 refine cq ?_
 refine nt ?_
 refine am ?_
 refine sr ?_
 refine mq ?_
 refine ol qP ?_
 refine mq ?_
 refine ol qP ?_
 refine jb (eX rfl) ?_
 refine nt ?_
 refine cn h (λh=>?_) (λh=>?_)
 .
  refine sr (cq (nt (rx ?_)));cases h;exact ra
 .
  refine sk (dU (Z:=Unit) (α:=Unit) (λz2 x1=>[]) (λz2 x1=>[]) (λe=>e=r) h (λe h=>Option.some.inj h) (λK hR h=>?_) (λz2 x1 h=>?_))
  .refine sr (cq (nt (ak ?_)));refine aH (λz4 y3=>[(0,.rep (.slice Tl) a0),(1,.rep (.slice Tl) a1),(5,I y3)]) (λz4 y3=>[]) (hP k a0 a1) k () 0 (λ_=>rfl) h (SE.fin [] ⟨rfl,rfl,rfl,trivial⟩ rfl) (λn z4 y3 h=>?_);unfold hP at h;refine am (sr ?_);iterate 2 refine mq ?_
   refine ol qP ?_;refine jb (bG rfl) ?_;refine nt (ci h (λh=>?_) (λh=>?_))
   .refine sk (am (ak (am (cN ?_))));refine dm ?_;refine dm ?_;obtain⟨x5,l,h⟩:=aa h;refine db (aU (t:=Tl) rfl qP ii l) ?_;refine da (ay (t:=Tl) rfl ii rfl) ?_;refine dm ?_;refine dm ?_;obtain⟨x6,j,h⟩:=aa h;refine db (aU (t:=Tl) rfl qP ii j) ?_;refine da (ay (t:=Tl) rfl ii rfl) ?_;refine df d4 ?_;obtain⟨r7,s,h⟩:=aa h;refine jb (aC [.tmp 20,.tmp 24] rfl rfl P0 rfl (ky k x5 x6 r7 s)) ?_;refine ja (iY rfl) ?_;refine nt (cw h (λh=>?_) (λh=>?_))
    .refine sr (cq (nt (aF (br (bP (bM ?_))))));obtain rfl:=hR _ h;exact ra
    .refine bj (aR (tn (ab (mq ?_))));obtain⟨x8,c,h⟩:=aa h;refine jb (bA rfl c) ?_;refine aq (nl ?_);exact jz ((),x8) h []
   .refine xa ?_;exact jz ((),()) h []
  .refine sr (cq (nt (aF ?_)));cases h;exact ra
