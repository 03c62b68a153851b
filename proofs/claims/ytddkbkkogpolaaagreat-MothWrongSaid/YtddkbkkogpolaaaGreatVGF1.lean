import Derived.Test.YtddkbkkogpolaaaGreatVGFacts
import Derived.Test.YtddkbkkogpolaaaGreatVGB6
open Nat
open List hiding mem_of_getElem?
open Array hiding mem_of_getElem? mk
set_option linter.unusedSimpArgs false
set_option linter.unusedVariables false
set_option maxRecDepth 4000
set_option maxHeartbeats 1000000
namespace Go.Proofs.YtddkbkkogpolaaaGreat
open K Go Go.Proofs
def iu(k:Nat)(a0:bW):Option (Int×bW):=
 ((if a0.2.1 < (a0.1.length:Int) then((aR a0.1 a0.2.1).bind λx3=>
 some (IntKind.u64.wrap ((IntKind.u64.wrap ((IntKind.u64.wrap (a0.2.2 * 6364136223846793005))+1442695040888963407))+(IntKind.u64.wrap ((IntKind.u64.wrap x3) * 2862933555777941757))))) else(some (IntKind.u64.wrap ((IntKind.u64.wrap (a0.2.2 * 6364136223846793005))+1442695040888963407)))):Option (Int)).bind λx1=>
 (ck (a0.2.1+1)).bind λx4=>
 some (ix .u64 (sX .u64 (IntKind.u64.wrap ((sX .u64 x1 (ix .u64 x1 29)) * 2685821657736338717)) (ix .u64 (IntKind.u64.wrap ((sX .u64 x1 (ix .u64 x1 29)) * 2685821657736338717)) 32)) 8,(a0.1,x4,x1))
theorem sT(k:Nat)(a0:bW)(c:Nat)(r:Int×bW)(h:iu k a0=some r):
 dy Tryz.prog 60 [Pt c] [.obj c 71 (.agg (.pair (.rep Tl a0.1) (.pair (I a0.2.1) (.eq (.int .u64 a0.2.2)))))] (λ_:Unit=>(bD [.eq (.int .u64 r.1)],[.obj c 71 (.agg (.pair (.rep Tl r.2.1) (.pair (I r.2.2.1) (.eq (.int .u64 r.2.2.2)))))])):=by
 unfold iu at h
 replace h:=be h
 refine dy.of 67 Tryz.func60 rfl Tryz.ntmps60 rfl λS w0=>?_
 refine sr ?_
 refine cq ?_
 refine nt ?_
 refine sr ?_
 iterate 2 refine mq ?_
 refine ja (cO rfl) ?_
 refine fl s6 ?_
 refine lo E1 ?_
 refine jb (BS rfl) ?_
 refine jb (Ic rfl) ?_
 refine ja (cO rfl) ?_
 refine fl s6 ?_
 refine aM rfl rfl (aI rfl E1 rfl rfl rfl) ⟨rfl,rfl,trivial⟩ ?_
 refine nt ?_
 refine aJ (Z:=Unit) (α:=Int) (λz2 x1=>[(0,Pt c)]) (λz2 x1=>[.obj c 71 (.agg (.pair (.rep Tl a0.1) (.pair (I a0.2.1) (.eq (.int .u64 x1)))))]) h (λK h=>?_) (λz2 x1 h=>?_)
 .
  refine aj (co ?_);refine dm ?_;refine da (cO rfl) ?_;refine da (aF rfl yr) ?_;refine ea 0 (ax rfl cF ny rfl) ?_;refine dm ?_;refine da (cO rfl) ?_;refine da (aF rfl I4) ?_;refine ea 0 (ax rfl eo ny rfl) ?_;refine da (rG rfl rfl g7) ?_;refine df dz ?_;refine jb (bA rfl) ?_;refine nt (ci h (λh=>?_) (λh=>?_))
  .refine co ?_;refine dm ?_;refine dm ?_;refine da (cO rfl) ?_;refine da (aF rfl s6) ?_;refine ea 0 (ax rfl E1 ny rfl) ?_;refine dm ?_;refine da (cO rfl) ?_;refine da (aF rfl I4) ?_;refine ea 0 (ax rfl eo ny rfl) ?_;refine dm ?_;refine da (cO rfl) ?_;refine da (aF rfl yr) ?_;refine ea 0 (ax rfl cF ny rfl) ?_;obtain⟨x3,j,h⟩:=aa h;refine db (aW (t:=Ti) rfl g7 cF j) ?_;refine da (av (t:=Ti) rfl cF rfl) ?_;refine da (sC rfl U3 TW) ?_;refine db (BS rfl) ?_;refine db (Ic rfl) ?_;refine df dz ?_;refine ja (cO rfl) ?_;refine fl s6 ?_;refine aM rfl rfl (aI rfl E1 rfl rfl rfl) ⟨rfl,rfl,trivial⟩ ?_;refine nl ?_;exact jz ((),IntKind.u64.wrap ((IntKind.u64.wrap ((IntKind.u64.wrap (a0.2.2 * 6364136223846793005))+1442695040888963407))+(IntKind.u64.wrap ((IntKind.u64.wrap x3) * 2862933555777941757)))) h [0]
  .refine bg (ao ?_);exact jz ((),IntKind.u64.wrap ((IntKind.u64.wrap (a0.2.2 * 6364136223846793005))+1442695040888963407)) h [0]
 .
  refine sr (mq ?_);refine ja (cO rfl) ?_;refine fl yr ?_;refine lo cF ?_;obtain⟨x4,e,h⟩:=aa h;refine jb (bp rfl e) ?_;refine ja (cO rfl) ?_;refine fl yr ?_;refine aM rfl rfl (aI rfl cF rfl rfl rfl) ⟨rfl,rfl,trivial⟩ ?_;refine nt (aj (co ?_));refine dm ?_;refine da (cO rfl) ?_;refine da (aF rfl s6) ?_;refine ea 0 (ax rfl E1 ny rfl) ?_;refine dm ?_;refine da (cO rfl) ?_;refine da (aF rfl s6) ?_;refine ea 0 (ax rfl E1 ny rfl) ?_;refine fM rfl rfl rfl (uD rfl (by decide)) ⟨rfl,rfl,trivial⟩ ?_;refine df dz ?_;refine jb (Oj rfl) ?_;refine aq (nt (sr ?_));refine mq ?_;refine jb (BS rfl) ?_;refine aq (nt (sr ?_));iterate 2 refine mq ?_
  refine cz rfl (uD rfl (by decide)) ⟨rfl,rfl,trivial⟩ ?_;refine jb (Oj rfl) ?_;refine cz rfl (uD rfl (by decide)) ⟨rfl,rfl,trivial⟩ ?_;refine aq (nt (aA ?_));cases h;exact aQ () [_] 1 ⟨rfl,trivial⟩ rfl
def cE(k:Nat)(a0:bW)(a1:Int):Option (Int×bW):=
 if a1 < 1 then(some (0,(a0.1,a0.2.1,a0.2.2))) else((iu k (a0.1,a0.2.1,a0.2.2)).bind λr1=>
 (ck (a1+1)).bind λx2=>
 (cM ((IntKind.u64.wrap x2)≠0)).bind λ_=>
 (ck (Int.tmod r1.1 (IntKind.u64.wrap x2))).bind λx4=>
 some (x4,(r1.2.1,r1.2.2.1,r1.2.2.2)))
theorem cN(k:Nat)(a0:bW)(c:Nat)(a1:Int)(r:Int×bW)(h:cE k a0 a1=some r):
 dy Tryz.prog 26 [Pt c,I a1] [.obj c 71 (.agg (.pair (.rep Tl a0.1) (.pair (I a0.2.1) (.eq (.int .u64 a0.2.2)))))] (λ_:Unit=>(bD [I r.1],[.obj c 71 (.agg (.pair (.rep Tl r.2.1) (.pair (I r.2.2.1) (.eq (.int .u64 r.2.2.2)))))])):=by
 unfold cE at h
 replace h:=be h
 refine dy.of 14 Tryz.func26 rfl Tryz.ntmps26 rfl λS w0=>?_
 refine sr ?_
 refine cq ?_
 refine nt ?_
 refine aj ?_
 refine sr ?_
 refine mq ?_
 refine jb (bA rfl) ?_
 refine nt ?_
 refine ci h (λh=>?_) (λh=>?_)
 .
  refine sr (cq (nt (rx ?_)));cases h;exact aQ () [_] 1 ⟨rfl,trivial⟩ rfl
 .
  refine sk (sr (mq ?_));obtain⟨r1,n,h⟩:=aa h;refine ka (ay [.tmp 7] rfl rfl U0 rfl (sT k (a0.1,a0.2.1,a0.2.2) c r1 n)) ?_;refine mq ?_;obtain⟨x2,j,h⟩:=aa h;refine jb (bp rfl j) ?_;refine ja (sC rfl U3 TW) ?_;obtain⟨u3,l,h⟩:=aa h;refine jb (Ro rfl (am l)) ?_;obtain⟨x4,e,h⟩:=aa h;refine ja (zO rfl TW U3 e) ?_;refine aq (nt (aA ?_));cases h;exact aQ () [_] 1 ⟨rfl,trivial⟩ rfl
def fx(k:Nat)(a0:bW)(a1:Int):Option (Bool×bW):=
 (ck (a1 - 1)).bind λx1=>
 (cE k (a0.1,a0.2.1,a0.2.2) x1).bind λr2=>
 some (decide (r2.1=0),(r2.2.1,r2.2.2.1,r2.2.2.2))
theorem jF(k:Nat)(a0:bW)(c:Nat)(a1:Int)(r:Bool×bW)(h:fx k a0 a1=some r):
 dy Tryz.prog 52 [Pt c,I a1] [.obj c 71 (.agg (.pair (.rep Tl a0.1) (.pair (I a0.2.1) (.eq (.int .u64 a0.2.2)))))] (λ_:Unit=>(bD [.eq (.bool r.1)],[.obj c 71 (.agg (.pair (.rep Tl r.2.1) (.pair (I r.2.2.1) (.eq (.int .u64 r.2.2.2)))))])):=by
 unfold fx at h
 replace h:=be h
 refine dy.of 10 Tryz.func52 rfl Tryz.ntmps52 rfl λS w0=>?_
 refine sr ?_
 refine cq ?_
 refine nt ?_
 refine sr ?_
 iterate 2 refine mq ?_
 obtain⟨x1,e,h⟩:=aa h
 refine jb (dM rfl e) ?_
 obtain⟨r2,j,h⟩:=aa h
 have l:=cN k (a0.1,a0.2.1,a0.2.2) c x1 r2 j
 refine kb (ay [.tmp 5,.tmp 7] rfl rfl wj rfl l) ?_
 refine jb (jg rfl) ?_
 refine aq ?_
 refine nt ?_
 refine aA ?_
 cases h
 exact aQ () [_] 1 ⟨rfl,trivial⟩ rfl
def iv(k:Nat)(a0:bW)(a1:yy):Option (bH×bW):=
 (ck (a1.1 - 1)).bind λx3=>
 (cE k (a0.1,a0.2.1,a0.2.2) x3).bind λr4=>
 (cE k (r4.2.1,r4.2.2.1,r4.2.2.2) (a1.2.2.2.2.1.length:Int)).bind λr5=>
 (fx k (r5.2.1,r5.2.2.1,r5.2.2.2) 2).bind λr6=>
 some ((r4.1,r5.1,r6.1),(r6.2.1,r6.2.2.1,r6.2.2.2))
theorem sV(k:Nat)(a0:bW)(c:Nat)(a1:yy)(r:bH×bW)(h:iv k a0 a1=some r):
 dy Tryz.prog 18 [Pt c,.rep Dx a1] [.obj c 71 (.agg (.pair (.rep Tl a0.1) (.pair (I a0.2.1) (.eq (.int .u64 a0.2.2)))))] (λ_:Unit=>(bD [.rep bf r.1],[.obj c 71 (.agg (.pair (.rep Tl r.2.1) (.pair (I r.2.2.1) (.eq (.int .u64 r.2.2.2)))))])):=by
 unfold iv at h
 replace h:=be h
 refine dy.of 18 Tryz.func18 rfl Tryz.ntmps18 rfl λS w0=>?_
 refine sr ?_
 refine bx λb1=>?_
 refine aS rfl rfl rfl (ba rfl Bo Jx) trivial λb2=>?_
 refine nt ?_
 refine aj ?_
 refine Gq [1,2,3,5,6,7,8,10,0,4,9,11,12,13] (by kernel_rfl) ?_
 refine bb rfl rfl rfl (aF rfl im) ⟨rfl,trivial⟩ ?_
 refine eR 1 rfl rfl rfl rfl (ax rfl cF ny rfl) ⟨rfl,trivial⟩ ?_
 obtain⟨x3,E,h⟩:=aa h
 refine bb rfl rfl rfl (dM rfl E) ⟨rfl,rfl,trivial⟩ ?_
 refine bb rfl rfl rfl (aV rfl) ⟨rfl,trivial⟩ ?_
 refine bb rfl rfl rfl (aF rfl eO) ⟨rfl,trivial⟩ ?_
 refine eR 1 rfl rfl rfl rfl (ax rfl lZ ny rfl) ⟨rfl,trivial⟩ ?_
 refine bb rfl rfl rfl (rG rfl rfl Bn) ⟨rfl,trivial⟩ ?_
 refine bb rfl rfl rfl (aV rfl) ⟨rfl,trivial⟩ ?_
 refine bb rfl rfl rfl (aV rfl) ⟨rfl,trivial⟩ ?_
 refine qX 9 [true,true,true,false,false,false,false,false,true] [9,14] [1] [.obj b1 26 (.rep Dx a1)] rfl (by kernel_rfl) (by kernel_rfl) (by kernel_rfl) dz (λvs hv hB=>?_)
 obtain⟨w0,zz,rfl,D⟩:=an hv
 obtain⟨w1,qt,rfl,y⟩:=an D
 obtain⟨w2,pq,rfl,x⟩:=an y
 obtain⟨w3,mw,rfl,u⟩:=an x
 obtain⟨w4,mc,rfl,s⟩:=an u
 obtain⟨w5,gw,rfl,n⟩:=an s
 obtain⟨w6,Z,rfl,l⟩:=an n
 obtain⟨w7,Y,rfl,j⟩:=an l
 obtain⟨w8,X,rfl,e⟩:=an j
 obtain rfl:=nK e
 refine⟨[1,0,2],[.obj b2 47 (.agg (.pair (I 0) (.pair (I 0) (.eq (.bool false))))),.obj c 71 (.agg (.pair (.rep Tl a0.1) (.pair (I a0.2.1) (.eq (.int .u64 a0.2.2)))))],by kernel_rfl,by decide,?_⟩
 obtain⟨r4,M,h⟩:=aa h
 have U:=cN k (a0.1,a0.2.1,a0.2.2) c x3 r4 M
 refine sa 1 rfl ?_
 refine tq rfl rfl rfl rfl (ay [.tmp 5,.tmp 8] rfl rfl wj rfl U) ⟨rfl,rfl,trivial⟩ (by kernel_rfl) ?_
 obtain⟨r5,J,h⟩:=aa h
 have Q:=cN k (r4.2.1,r4.2.2.1,r4.2.2.2) c (a1.2.2.2.2.1.length:Int) r5 J
 refine tq rfl rfl rfl rfl (ay [.tmp 10,.tmp 13] rfl rfl wj rfl Q) ⟨rfl,rfl,trivial⟩ (by kernel_rfl) ?_
 refine JW (by kernel_rfl) ?_
 obtain⟨r6,F,h⟩:=aa h
 have O:=jF k (r5.2.1,r5.2.2.1,r5.2.2.2) c 2 r6 F
 refine fr 1 ?_
 refine kb (ay [.tmp 15,.const (.int .i64 (2))] rfl rfl P6 rfl O) ?_
 refine jc (eB [(0,.tmp 9,_),(1,.tmp 14,_),(2,.tmp 16,_)] rfl Rf Bo OB (jV ⟨rfl,rfl,rfl,trivial⟩) rfl) ?_
 refine fr 2 ?_
 refine aM rfl rfl (aI rfl ry trivial rfl rfl) ⟨rfl,rfl,trivial⟩ ?_
 refine nt ?_
 refine aA ?_
 refine bM (ge (a:=.agg (.pair (I r4.1) (.pair (I r5.1) (.eq (.bool r6.1))))) (a':=.rep bf (r4.1,r5.1,r6.1)) (iq (.agg (.pair .int (.pair .int .bool))))) ?_
 refine bM (SE.fin (Γ':=[(4,_)]) [1,0,2] ⟨rfl,trivial⟩ rfl) ?_
 cases h
 exact aQ () [.rep bf (r4.1,r5.1,r6.1)] 1 ⟨⟨_,_,_,_,_,rfl,(.tail _ (.head _)),ry,(t6),rfl⟩,trivial⟩ rfl
def jr(k:Nat)(a0:(List Int)):Option (List Int):=
 (cM (bQ (length ([]:(List Int))+length a0))).bind λ_=>
 some (([]:(List Int))++a0)
theorem tX(k:Nat)(a0:(List Int))(r:(List Int))(h:jr k a0=some r):
 dy Tryz.prog 89 [.rep Tl a0] [] (λz:Value=>(bD [.eq z],[.sl z 3 Ti r])):=by
 unfold jr at h
 replace h:=be h
 refine dy.of 6 Tryz.func89 rfl Tryz.ntmps89 rfl λS w0=>?_
 refine sr ?_
 refine cq ?_
 refine nt ?_
 refine sr ?_
 refine aS rfl rfl rfl (iN (t:=Ti) [] ([]:(List Int)) rfl rfl dL .nil rfl rfl) trivial λv1=>?_
 refine mq ?_
 obtain⟨u2,c,h⟩:=aa h
 refine dS rfl rfl rfl (cg rfl rfl dL (am c)) ⟨rfl,rfl,trivial⟩ λv3=>?_
 refine aq ?_
 refine nt ?_
 refine aA ?_
 cases h
 exact aQ v3 [.eq v3] 1 ⟨rfl,trivial⟩ rfl
def dQ(k:Nat)(a0:(List (List Int))):Nat->((List (List Int))×Int)->Option (List (List Int))
 |0,_=>none
 |n+1,y3=>
  if y3.2 < (a0.length:Int) then((aR a0 y3.2).bind λx5=>
  (jr k x5).bind λr6=>
  (cM (bQ (length y3.1+length [r6]))).bind λ_=>
  (ck (y3.2+1)).bind λc=>
  dQ k a0 n (y3.1++[r6],c)) else(some y3.1)
def iw(k:Nat)(a0:(List (List Int))):Option (List (List Int)):=
 ((dQ k a0 k (([]:(List (List Int))),0)):Option ((List (List Int)))).bind λx1=>
 some x1
theorem sW(k:Nat)(a0:(List (List Int)))(r:(List (List Int)))(h:iw k a0=some r):
 dy Tryz.prog 53 [.rep (.slice Tl) a0] [] (λz:Value=>(bD [.eq z],[.sl z 22 Tl r])):=by
 unfold iw at h
 replace h:=be h
 refine dy.of 20 Tryz.func53 rfl Tryz.ntmps53 rfl λS w0=>?_
 refine sr ?_
 refine cq ?_
 refine nt ?_
 refine sr ?_
 refine cq ?_
 refine nt ?_
 refine aJ (Z:=Value) (α:=(List (List Int))) (λz2 x1=>[(3,.eq z2)]) (λz2 x1=>[.sl z2 22 Tl x1]) h (λK h=>?_) (λz2 x1 h=>?_)
 .
  refine sr (cq (nt (ai ?_)));refine ik (SE.nil 22 Tl) ?_;refine aG (λz4 y3=>[(0,.rep (.slice Tl) a0),(3,.eq z4),(4,I y3.2)]) (λz4 y3=>[.sl z4 22 Tl y3.1]) (dQ k a0) k (.slice none 0 0) (([]:(List (List Int))),0) (λ_=>rfl) h (SE.fin [0] ⟨rfl,rfl,rfl,trivial⟩ rfl) (λn z4 y3 h=>?_);unfold dQ at h;refine aj (sr ?_);iterate 2 refine mq ?_
  refine ol oq ?_;refine jb (bA rfl) ?_;refine nt (ci h (λh=>?_) (λh=>?_))
  .refine sk (aj (ai (ab ?_)));iterate 3 refine mq ?_
   obtain⟨x5,j,h⟩:=aa h;refine jb (aW (t:=Tl) rfl oq eo j) ?_;refine ja (av (t:=Tl) rfl eo rfl) ?_;obtain⟨r6,s,h⟩:=aa h;refine aS rfl rfl rfl (ay [.tmp 15] rfl rfl UO rfl (tX k x5 r6 s)) ⟨rfl,trivial⟩ λv7=>?_;refine d4 (ip [16] ⟨rfl,trivial⟩) ?_;refine ja (bj (t:=Tl) [(.tmp 16,_)] [r6] rfl rfl l7 (.cons rfl .rep .nil) rfl rfl) ?_;obtain⟨u8,l,h⟩:=aa h;refine dS rfl rfl rfl (cg rfl rfl l7 (am l)) ⟨rfl,rfl,trivial⟩ λv9=>?_;refine aq (aH (aL (tn (ab ?_))));refine mq ?_;obtain⟨e,c,h⟩:=aa h;refine jb (bp rfl c) ?_;refine aq (nl ?_);exact jz (v9,(y3.1++[r6],e)) h [0]
  .refine xa ?_;exact jz (z4,y3.1) h [0]
 .
  refine sr (mq ?_);refine aq (nt (aA ?_));cases h;exact aQ z2 [.eq z2] 1 ⟨rfl,trivial⟩ rfl
def fQ(k:Nat)(a0:bW)(a1:Int)(a2:Int):Option (Int×bW):=
 (ck (a2 - a1)).bind λx1=>
 (cE k (a0.1,a0.2.1,a0.2.2) x1).bind λr2=>
 (ck (a1+r2.1)).bind λx3=>
 some (x3,(r2.2.1,r2.2.2.1,r2.2.2.2))
theorem jq(k:Nat)(a0:bW)(c:Nat)(a1:Int)(a2:Int)(r:Int×bW)(h:fQ k a0 a1 a2=some r):
 dy Tryz.prog 57 [Pt c,I a1,I a2] [.obj c 71 (.agg (.pair (.rep Tl a0.1) (.pair (I a0.2.1) (.eq (.int .u64 a0.2.2)))))] (λ_:Unit=>(bD [I r.1],[.obj c 71 (.agg (.pair (.rep Tl r.2.1) (.pair (I r.2.2.1) (.eq (.int .u64 r.2.2.2)))))])):=by
 unfold fQ at h
 replace h:=be h
 refine dy.of 14 Tryz.func57 rfl Tryz.ntmps57 rfl λS w0=>?_
 refine sr ?_
 refine cq ?_
 refine nt ?_
 refine sr ?_
 iterate 4 refine mq ?_
 obtain⟨x1,j,h⟩:=aa h
 refine jb (dM rfl j) ?_
 obtain⟨r2,l,h⟩:=aa h
 have n:=cN k (a0.1,a0.2.1,a0.2.2) c x1 r2 l
 refine kb (ay [.tmp 8,.tmp 11] rfl rfl wj rfl n) ?_
 obtain⟨x3,e,h⟩:=aa h
 refine jb (bp rfl e) ?_
 refine aq ?_
 refine nt ?_
 refine aA ?_
 cases h
 exact aQ () [_] 1 ⟨rfl,trivial⟩ rfl
def gX(k:Nat)(a0:bW)(a1:(List Int)):Option (Int×bW):=
 (ck ((a1.length:Int) - 1)).bind λx1=>
 (cE k (a0.1,a0.2.1,a0.2.2) x1).bind λr2=>
 (aR a1 r2.1).bind λx3=>
 some (x3,(r2.2.1,r2.2.2.1,r2.2.2.2))
theorem lK(k:Nat)(a0:bW)(c:Nat)(a1:(List Int))(r:Int×bW)(h:gX k a0 a1=some r):
 dy Tryz.prog 58 [Pt c,.rep Tl a1] [.obj c 71 (.agg (.pair (.rep Tl a0.1) (.pair (I a0.2.1) (.eq (.int .u64 a0.2.2)))))] (λ_:Unit=>(bD [I r.1],[.obj c 71 (.agg (.pair (.rep Tl r.2.1) (.pair (I r.2.2.1) (.eq (.int .u64 r.2.2.2)))))])):=by
 unfold gX at h
 replace h:=be h
 refine dy.of 13 Tryz.func58 rfl Tryz.ntmps58 rfl λS w0=>?_
 refine sr ?_
 refine cq ?_
 refine nt ?_
 refine sr ?_
 iterate 3 refine mq ?_
 refine ol g7 ?_
 obtain⟨x1,j,h⟩:=aa h
 refine jb (dM rfl j) ?_
 obtain⟨r2,l,h⟩:=aa h
 have n:=cN k (a0.1,a0.2.1,a0.2.2) c x1 r2 l
 refine kb (ay [.tmp 6,.tmp 9] rfl rfl wj rfl n) ?_
 obtain⟨x3,e,h⟩:=aa h
 refine jb (aW (t:=Ti) rfl g7 cF e) ?_
 refine ja (av (t:=Ti) rfl cF rfl) ?_
 refine aq ?_
 refine nt ?_
 refine aA ?_
 cases h
 exact aQ () [_] 1 ⟨rfl,trivial⟩ rfl
def eh(k:Nat)(a1:Int):Nat->((List Int)×Int×Int×(List Int)×Int)->Option ((List Int)×(List Int)×Int×Int)
 |0,_=>none
 |n+1,y3=>
  if y3.2.2.2.2 < a1 then((cE k (y3.1,y3.2.1,y3.2.2.1) y3.2.2.2.2).bind λr5=>
  (cM (bQ (length y3.2.2.2.1+length [y3.2.2.2.2]))).bind λ_=>
  (aR (y3.2.2.2.1++[y3.2.2.2.2]) r5.1).bind λx8=>
  (aR (y3.2.2.2.1++[y3.2.2.2.2]) y3.2.2.2.2).bind λx9=>
  (aR (List.set (y3.2.2.2.1++[y3.2.2.2.2]) (Int.toNat y3.2.2.2.2) x8) r5.1).bind λe=>
  (ck (y3.2.2.2.2+1)).bind λc=>
  eh k a1 n (r5.2.1,r5.2.2.1,r5.2.2.2,List.set (List.set (y3.2.2.2.1++[y3.2.2.2.2]) (Int.toNat y3.2.2.2.2) x8) (Int.toNat r5.1) y3.2.2.2.2,c)) else(some (y3.2.2.2.1,y3.1,y3.2.1,y3.2.2.1))
def gY(k:Nat)(a0:bW)(a1:Int):Option ((List Int)×bW):=
 ((eh k a1 k (a0.1,a0.2.1,a0.2.2,([]:(List Int)),0)):Option ((List Int)×(List Int)×Int×Int)).bind λx1=>
 some (x1.1,(x1.2.1,x1.2.2.1,x1.2.2.2))
theorem rQ(k:Nat)(a0:bW)(c:Nat)(a1:Int)(r:(List Int)×bW)(h:gY k a0 a1=some r):
 dy Tryz.prog 90 [Pt c,I a1] [.obj c 71 (.agg (.pair (.rep Tl a0.1) (.pair (I a0.2.1) (.eq (.int .u64 a0.2.2)))))] (λ_:Unit=>(bD [.rep Tl r.1],[.obj c 71 (.agg (.pair (.rep Tl r.2.1) (.pair (I r.2.2.1) (.eq (.int .u64 r.2.2.2)))))])):=by
 unfold gY at h
 replace h:=be h
 refine dy.of 32 Tryz.func90 rfl Tryz.ntmps90 rfl λS w0=>?_
 refine sr ?_
 refine cq ?_
 refine nt ?_
 refine sr ?_
 refine cq ?_
 refine nt ?_
 refine aJ (Z:=Value) (α:=(List Int)×(List Int)×Int×Int) (λz2 x1=>[(5,.eq z2)]) (λz2 x1=>[.sl z2 3 Ti x1.1,.obj c 71 (.agg (.pair (.rep Tl x1.2.1) (.pair (I x1.2.2.1) (.eq (.int .u64 x1.2.2.2)))))]) h (λK h=>?_) (λz2 x1 h=>?_)
 .
  refine sr (cq (nt (ai ?_)));refine ik (SE.nil 3 Ti) ?_;refine aG (λz4 y3=>[(0,Pt c),(1,I a1),(5,.eq z4),(6,I y3.2.2.2.2)]) (λz4 y3=>[.obj c 71 (.agg (.pair (.rep Tl y3.1) (.pair (I y3.2.1) (.eq (.int .u64 y3.2.2.1))))),.sl z4 3 Ti y3.2.2.2.1]) (eh k a1) k (.slice none 0 0) (a0.1,a0.2.1,a0.2.2,([]:(List Int)),0) (λ_=>rfl) h (SE.fin [1,0] ⟨rfl,rfl,rfl,rfl,trivial⟩ rfl) (λn z4 y3 h=>?_);unfold eh at h;refine aj (sr ?_);iterate 2 refine mq ?_
  refine jb (bA rfl) ?_;refine nt (ci h (λh=>?_) (λh=>?_))
  .refine sk (aj (ai (sr ?_)));iterate 2 refine mq ?_
   obtain⟨r5,y,h⟩:=aa h;refine kb (ay [.tmp 13,.tmp 14] rfl rfl wj rfl (cN k (y3.1,y3.2.1,y3.2.2.1) c y3.2.2.2.2 r5 y)) ?_;refine aq (nt (sr ?_));iterate 2 refine mq ?_
   refine ja (bj (t:=Ti) [(.tmp 17,_)] [y3.2.2.2.2] rfl rfl dL (.cons rfl .int .nil) rfl rfl) ?_;obtain⟨u6,x,h⟩:=aa h;refine fr 1 ?_;refine dS rfl rfl rfl (cg rfl rfl dL (am x)) ⟨rfl,rfl,trivial⟩ λv7=>?_;refine aq (nt (ab ?_));iterate 6 refine mq ?_
   obtain⟨x8,l,h⟩:=aa h;refine kb (bB (t:=Ti) rfl g7 cF l) ?_;refine ka (eg (i:=Int.toNat r5.1) (off:=0) rfl cF (λ_=>rfl) rfl (dR l).2.2 rfl) ?_;refine mq ?_;obtain⟨x9,j,h⟩:=aa h;refine kb (bB (t:=Ti) rfl g7 cF j) ?_;refine aM rfl rfl (eX (i:=Int.toNat y3.2.2.2.2) rfl cF rfl (nM j) rfl .int rfl) ⟨rfl,rfl,trivial⟩ ?_;obtain⟨D,e,h⟩:=aa h;refine kb (bB (t:=Ti) rfl g7 cF e) ?_;refine aM rfl rfl (eX (i:=Int.toNat r5.1) rfl cF rfl (nM e) rfl .int rfl) ⟨rfl,rfl,trivial⟩ ?_;refine aH (aL (tn (ab (mq ?_))));obtain⟨u,s,h⟩:=aa h;refine jb (bp rfl s) ?_;refine aq (nl ?_);exact jz (v7,(r5.2.1,r5.2.2.1,r5.2.2.2,List.set (List.set (y3.2.2.2.1++[y3.2.2.2.2]) (Int.toNat y3.2.2.2.2) x8) (Int.toNat r5.1) y3.2.2.2.2,u)) h [1,0]
  .refine xa ?_;exact jz (z4,(y3.2.2.2.1,y3.1,y3.2.1,y3.2.2.1)) h [1,0]
 .
  refine sr (mq ?_);refine aq (nt (aA ?_));refine bM (ip [4,5,31] ⟨rfl,rfl,rfl,trivial⟩) ?_;cases h;exact aQ () [_] 1 ⟨rfl,trivial⟩ rfl
def mz(k:Nat)(a0:(List Int)):Option bW:=
 some (a0,0,1)
theorem uS(k:Nat)(a0:(List Int))(r:bW)(h:mz k a0=some r):
 dy Tryz.prog 10 [.rep Tl a0] [] (λz:Nat=>(bD [Pt z],[.obj z 71 (.agg (.pair (.rep Tl r.1) (.pair (I r.2.1) (.eq (.int .u64 r.2.2)))))])):=by
 unfold mz at h
 replace h:=be h
 refine dy.of 6 Tryz.func10 rfl Tryz.ntmps10 rfl λS w0=>?_
 refine sr ?_
 refine cq ?_
 refine nt ?_
 refine sr ?_
 refine mq ?_
 refine jb (eB [(0,.tmp 3,_),(2,.const (.int .u64 (1)),_)] rfl Uk Uc S9 (jV ⟨rfl,rfl,trivial⟩) rfl) ?_
 refine aS rfl rfl rfl (wR rfl trivial) ⟨rfl,trivial⟩ λb1=>?_
 refine aq ?_
 refine nt ?_
 refine aA ?_
 cases h
 exact aQ b1 [Pt b1] 1 ⟨rfl,trivial⟩ rfl
def eZ(k:Nat)(a0:Int)(a1:Int):Option Int:=
 (cM (0≤a1)).bind λ_=>
 some (D4 .u8 a0 (oZ .u8 1 a1))
theorem iF(k:Nat)(a0:Int)(a1:Int)(r:Int)(h:eZ k a0 a1=some r):
 dy Tryz.prog 62 [.eq (.int .u8 a0),I a1] [] (λ_:Unit=>(bD [.eq (.int .u8 r)],[])):=by
 unfold eZ at h
 replace h:=be h
 refine dy.of 9 Tryz.func62 rfl Tryz.ntmps62 rfl λS w0=>?_
 refine sr ?_
 refine cq ?_
 refine nt ?_
 refine sr ?_
 iterate 2 refine mq ?_
 obtain⟨u1,c,h⟩:=aa h
 refine jb (Ol rfl (am c)) ?_
 refine jb (Ul rfl) ?_
 refine aq ?_
 refine nt ?_
 refine aA ?_
 cases h
 exact ra
def dP(k:Nat)(a0:Int)(a1:Int)(a2:Int):Option Bool:=
 ((if a1≤a0 then(some (decide (a0≤a2))) else(some false)):Option (Bool)).bind λx1=>
 some x1
theorem dU(k:Nat)(a0:Int)(a1:Int)(a2:Int)(r:Bool)(h:dP k a0 a1 a2=some r):
 dy Tryz.prog 71 [I a0,I a1,I a2] [] (λ_:Unit=>(bD [.eq (.bool r)],[])):=by
 unfold dP at h
 replace h:=be h
 refine dy.of 15 Tryz.func71 rfl Tryz.ntmps71 rfl λS w0=>?_
 refine sr ?_
 refine cq ?_
 refine nt ?_
 refine aJ (Z:=Unit) (α:=Bool) (λz2 x1=>[(6,.eq (.bool x1))]) (λz2 x1=>[]) h (λK h=>?_) (λz2 x1 h=>?_)
 .
  refine ab ?_;iterate 2 refine mq ?_
  refine jb (zL rfl) ?_;refine mq ?_;refine cQ (s:=10) rfl (λhb=>?_) (λhb=>?_)
  .replace h:=eQ (ta hb) h;refine gm ?_;refine gm ?_;refine gb (zL rfl) ?_;refine pt ?_;refine aq (nl ?_);exact jz ((),decide (a0≤a2)) h []
  .replace h:=c6 (tc hb) h;iterate 3 refine gn ?_
   refine pf ?_;refine aq (nl ?_);exact jz ((),false) h []
 .
  refine aA ?_;cases h;exact ra
def gp(k:Nat)(a0:ae)(a1:bH):Option Int:=
 (((ck (a0.1 - 1)).bind λx5=>
 (dP k a1.1 0 x5).bind λr6=>
 if¬(r6=true) then(some true) else((dP k a1.2.1 0 (a0.2.2.2.2.1.length:Int)).bind λr7=>
 some (!r7))):Option (Bool)).bind λx3=>
 if x3=true then(some 3) else(some 0)
theorem qI(k:Nat)(a0:ae)(a1:bH)(r:Int)(h:gp k a0 a1=some r):
 dy Tryz.prog 54 [.rep au a0,.rep bf a1] [] (λ_:Unit=>(bD [I r],[])):=by
 unfold gp at h
 replace h:=be h
 refine dy.of 21 Tryz.func54 rfl Tryz.ntmps54 rfl λS w0=>?_
 refine sr ?_
 refine bx λb1=>?_
 refine bx λb2=>?_
 refine cq ?_
 refine nt ?_
 refine aj ?_
 refine aJ (Z:=Unit) (α:=Bool) (λz4 x3=>[(20,.eq (.bool x3))]) (λz4 x3=>[]) h (λK h=>?_) (λz4 x3 h=>?_)
 .
  refine ab (fl CO ?_);refine lo cF ?_;refine fl im ?_;refine fr 1 ?_;refine lo cF ?_;obtain⟨x5,c,h⟩:=aa h;refine jb (dM rfl c) ?_;obtain⟨r6,j,h⟩:=aa h;refine jc (ay [.tmp 6,.const (.int .i64 (0)),.tmp 9] rfl rfl yx rfl (dU k a1.1 0 x5 r6 j)) ?_;refine ja (ii rfl) ?_;refine mq ?_;refine cQ (s:=12) rfl (λhb=>?_) (λhb=>?_)
  .replace h:=eQ (BV hb) h;iterate 7 refine gn ?_
   refine pt (nl ?_);exact jz ((),true) h []
  .replace h:=c6 (uF hb) h;refine ga (aF rfl CN) ?_;refine fr 1 ?_;refine pi rfl rfl rfl rfl rfl rfl (ax rfl cF ny rfl) ⟨rfl,trivial⟩ ?_;refine ga (aF rfl eO) ?_;refine fr 1 ?_;refine pi rfl rfl rfl rfl rfl rfl (ax rfl lZ ny rfl) ⟨rfl,trivial⟩ ?_;refine ga (rG rfl rfl Bn) ?_;obtain⟨r7,e,h⟩:=aa h;refine gc (ay [.tmp 14,.const (.int .i64 (0)),.tmp 17] rfl rfl yx rfl (dU k a1.2.1 0 (a0.2.2.2.2.1.length:Int) r7 e)) ?_;refine ga (ii rfl) ?_;refine pf (nl ?_);exact jz ((), !r7) h []
 .
  refine cv h (λh=>?_) (λh=>?_)
  .refine sr (cq (nt (rx ?_)));cases h;exact ra
  .refine sk (sr (cq (nt (aA ?_))));cases h;exact ra
def fa(k:Nat)(a0:Int)(a1:Int):Option Bool:=
 (cM (0≤a1)).bind λ_=>
 some (decide ((qO .u8 (ix .u8 a0 a1) 1)=1))
theorem gV(k:Nat)(a0:Int)(a1:Int)(r:Bool)(h:fa k a0 a1=some r):
 dy Tryz.prog 75 [.eq (.int .u8 a0),I a1] [] (λ_:Unit=>(bD [.eq (.bool r)],[])):=by
 unfold fa at h
 replace h:=be h
 refine dy.of 10 Tryz.func75 rfl Tryz.ntmps75 rfl λS w0=>?_
 refine sr ?_
 refine cq ?_
 refine nt ?_
 refine sr ?_
 iterate 2 refine mq ?_
 obtain⟨u1,c,h⟩:=aa h
 refine jb (uD rfl (am c)) ?_
 refine jb (Rt rfl) ?_
 refine jb (jg rfl) ?_
 refine aq ?_
 refine nt ?_
 refine aA ?_
 cases h
 exact ra
def dh(k:Nat)(a0:ae)(x8:(List Int)):Nat->(Int×Int)->Option (Except Int Int)
 |0,_=>none
 |n+1,y9=>
  if y9.2 < (x8.length:Int) then((aR x8 y9.2).bind λc=>
  (ck (a0.1 - 1)).bind λh=>
  (dP k c 0 h).bind λr=>
  if¬(r=true) then(some (.error 3)) else((fa k y9.1 c).bind λl=>
  if l=true then(some (.error 4)) else((eZ k y9.1 c).bind λj=>
  (ck (y9.2+1)).bind λe=>
  dh k a0 x8 n (j,e)))) else(some (.ok y9.1))
def di(k:Nat)(a0:ae)(a1:(List (List Int))):Nat->(Int×Int)->Option (Except Int Unit)
 |0,_=>none
 |n+1,y4=>
  if y4.2 < (a1.length:Int) then(bE (α:=Int) ((aR a1 y4.2).bind λx8=>
  dh k a0 x8 k (y4.1,0)) (λe=>some (.error e)) λx6=>
  (ck (y4.2+1)).bind λc=>
  di k a0 a1 n (x6,c)) else(some (.ok ()))
def jm(k:Nat)(a0:ae)(a1:(List (List Int))):Option Int:=
 if 3 < (a1.length:Int) then(some 6) else(bE (α:=Unit) (di k a0 a1 k (0,0)) (some) λ_=>
 some 0)
theorem tR(k:Nat)(a0:ae)(a1:(List (List Int)))(r:Int)(h:jm k a0 a1=some r):
 dy Tryz.prog 101 [.rep au a0,.rep (.slice Tl) a1] [] (λ_:Unit=>(bD [I r],[])):=by
 unfold jm at h
 replace h:=be h
 refine dy.of 39 Tryz.func101 rfl Tryz.ntmps101 rfl λS w0=>?_
 refine sr ?_
 refine bx λb1=>?_
 refine cq ?_
 refine nt ?_
 refine aj ?_
 refine sr ?_
 refine mq ?_
 refine ol oq ?_
 refine jb (ml rfl) ?_
 refine nt ?_
 refine ci h (λh=>?_) (λh=>?_)
 .
  refine sr (cq (nt (rx ?_)));cases h;exact ra
 .
  refine sk (sr (cq (nt ?_)));refine dk (Z:=Unit) (α:=Unit) (λz3 x2=>[]) (λz3 x2=>[]) (λe=>e=r) h (λe h=>Option.some.inj h) (λK hR h=>?_) (λz3 x2 h=>?_)
  .refine sr (mq ?_);refine ol oq ?_;refine fq rfl ?_;refine nt (ai (aG (λz5 y4=>[(2,Pt b1),(5,.eq (.int .u8 y4.1)),(13,.rep (.slice Tl) a1),(14,I (a1.length:Int)),(15,I y4.2)]) (λz5 y4=>[.obj b1 26 (.rep au a0)]) (di k a0 a1) k () (0,0) (λ_=>rfl) h (SE.fin [0] ⟨rfl,rfl,rfl,rfl,rfl,trivial⟩ rfl) (λn z5 y4 h=>?_)));unfold di at h;refine sr (jb (bA rfl) ?_);refine nt (aj (ci h (λh=>?_) (λh=>?_)))
   .refine sk (dk (Z:=Unit) (α:=Int) (λz7 x6=>[(2,Pt b1),(5,.eq (.int .u8 x6)),(13,.rep (.slice Tl) a1),(14,I (a1.length:Int)),(15,I y4.2)]) (λz7 x6=>[.obj b1 26 (.rep au a0)]) (λe=>e=r) h (λe h=>hR e h) (λK hR h=>?_) (λz7 x6 h=>?_))
    .refine ai (sr ?_);obtain⟨x8,X,h⟩:=aa h;refine jb (aW (t:=Tl) rfl oq eo X) ?_;refine ja (av (t:=Tl) rfl eo rfl) ?_;refine aq (nt (sr ?_));refine mq ?_;refine ol g7 ?_;refine fq rfl ?_;refine nt (ai (aG (λj y9=>[(2,Pt b1),(5,.eq (.int .u8 y9.1)),(13,.rep (.slice Tl) a1),(14,I (a1.length:Int)),(15,I y4.2),(19,.rep Tl x8),(20,I (x8.length:Int)),(21,I y9.2)]) (λj y9=>[.obj b1 26 (.rep au a0)]) (dh k a0 x8) k () (y4.1,0) (λ_=>rfl) h (SE.fin [0] ⟨rfl,rfl,rfl,rfl,rfl,rfl,rfl,rfl,trivial⟩ rfl) (λn j y9 h=>?_)));unfold dh at h;refine sr (jb (bA rfl) ?_);refine nt (aj (ci h (λh=>?_) (λh=>?_)))
     .refine sk (aj (ai (sr ?_)));obtain⟨c,y,h⟩:=aa h;refine jb (aW (t:=Ti) rfl g7 cF y) ?_;refine ja (av (t:=Ti) rfl cF rfl) ?_;refine aq (nt (aj (sr ?_)));refine mq ?_;refine fl im ?_;refine lo cF ?_;obtain⟨O,x,h⟩:=aa h;refine jb (dM rfl x) ?_;obtain⟨U,F,h⟩:=aa h;refine jc (ay [.tmp 25,.const (.int .i64 (0)),.tmp 28] rfl rfl yx rfl (dU k c 0 O U F)) ?_;refine ja (ii rfl) ?_;refine nt (cw h (λh=>?_) (λh=>?_))
      .refine sr (cq (nt (rx (br (bh (br (bh (bo ?_))))))));obtain rfl:=hR _ h;exact ra
      .refine sk (aj (sr ?_));iterate 2 refine mq ?_
       obtain⟨Q,E,h⟩:=aa h;refine jb (ay [.tmp 31,.tmp 32] rfl rfl Jc rfl (gV k y9.1 c Q E)) ?_;refine nt (cv h (λh=>?_) (λh=>?_))
       .refine sr (cq (nt (rx (br (bh (br (bh (bo ?_))))))));obtain rfl:=hR _ h;exact ra
       .refine sk (ab ?_);iterate 2 refine mq ?_
        obtain⟨l,D,h⟩:=aa h;refine jb (ay [.tmp 34,.tmp 35] rfl rfl MS rfl (iF k y9.1 c l D)) ?_;refine aq (aH (aL (tn (ab ?_))));obtain⟨M,u,h⟩:=aa h;refine jb (bp rfl u) ?_;refine mq (nl ?_);exact jz ((),(l,M)) h [0]
     .refine fD (bO (bO (c7 (bn ?_))));exact jz ((),y9.1) h [0]
    .refine ab ?_;obtain⟨J,s,h⟩:=aa h;refine jb (bp rfl s) ?_;refine mq (nl ?_);exact jz ((),(x6,J)) h [0]
   .refine xa ?_;exact jz ((),()) h []
  .refine sr (cq (nt (aA ?_)));cases h;exact ra
def fi(k:Nat)(a0:ae):Nat->Int->Option (Except Int Unit)
 |0,_=>none
 |n+1,c=>
  if c < (a0.2.2.2.2.1.length:Int) then((aR a0.2.2.2.2.1 c).bind λj=>
  (jm k a0 j).bind λe=>
  if¬(e=0) then(some (.error e)) else((ck (c+1)).bind λh=>
  fi k a0 n h)) else(some (.ok ()))
def fh(k:Nat)(a0:ae):Nat->Int->Option (Except Int Unit)
 |0,_=>none
 |n+1,c=>
  if c < (a0.2.2.2.2.2.length:Int) then((aR a0.2.2.2.2.2 c).bind λj=>
  (gp k a0 j).bind λe=>
  if¬(e=0) then(some (.error e)) else((ck (c+1)).bind λh=>
  fh k a0 n h)) else(some (.ok ()))
def ni(k:Nat)(a0:ae):Option Int:=
 (((dP k a0.1 1 5).bind λr4=>
 if¬(r4=true) then(some true) else((dP k a0.2.1 0 3).bind λr5=>
 if¬(r5=true) then(some true) else((dP k a0.2.2.1 0 3).bind λr6=>
 if¬(r6=true) then(some true) else((dP k a0.2.2.2.1 1 3).bind λr7=>
 some (!r7))))):Option (Bool)).bind λx2=>
 if x2=true then(some 1) else(if(a0.2.2.2.2.1.length:Int) < 1 then(some 7) else(if 6 < (a0.2.2.2.2.1.length:Int) then(some 6) else(bE (α:=Unit) (fi k a0 k 0) (some) λ_=>
 if 8 < (a0.2.2.2.2.2.length:Int) then(some 6) else(bE (α:=Unit) (fh k a0 k 0) (some) λ_=>
 some 0))))
theorem yd(k:Nat)(a0:ae)(r:Int)(h:ni k a0=some r):
 dy Tryz.prog 70 [.rep au a0] [] (λ_:Unit=>(bD [I r],[])):=by
 unfold ni at h
 replace h:=be h
 refine dy.of 73 Tryz.func70 rfl Tryz.ntmps70 rfl λS w0=>?_
 refine sr ?_
 refine bx λb1=>?_
 refine cq ?_
 refine nt ?_
 refine aj ?_
 refine aJ (Z:=Unit) (α:=Bool) (λz3 x2=>[(1,Pt b1),(31,.eq (.bool x2))]) (λz3 x2=>[.obj b1 26 (.rep au a0)]) h (λK h=>?_) (λz3 x2 h=>?_)
 .
  refine ab (fl im ?_);refine lo cF ?_;obtain⟨r4,zz,h⟩:=aa h;refine jc (ay [.tmp 11,.const (.int .i64 (1)),.const (.int .i64 (5))] rfl rfl yx rfl (dU k a0.1 1 5 r4 zz)) ?_;refine ja (ii rfl) ?_;refine mq ?_;refine cQ (s:=14) rfl (λhb=>?_) (λhb=>?_)
  .replace h:=eQ (BV hb) h;iterate 4 refine gn ?_
   refine pt ?_;refine mq ?_;iterate 4 refine gn ?_
   refine pt ?_;refine mq ?_;iterate 4 refine gn ?_
   refine pt (nl ?_);exact jz ((),true) h [0]
  .replace h:=c6 (uF hb) h;refine ga (aF rfl CP) ?_;refine pi rfl rfl rfl rfl rfl rfl (ax rfl cF ny rfl) ⟨rfl,trivial⟩ ?_;obtain⟨r5,qt,h⟩:=aa h;refine gc (ay [.tmp 16,.const (.int .i64 (0)),.const (.int .i64 (3))] rfl rfl yx rfl (dU k a0.2.1 0 3 r5 qt)) ?_;refine ga (ii rfl) ?_;refine pf ?_;refine mq ?_;refine cQ (s:=20) rfl (λhb=>?_) (λhb=>?_)
   .replace h:=eQ (BV hb) h;iterate 4 refine gn ?_
    refine pt ?_;refine mq ?_;iterate 4 refine gn ?_
    refine pt (nl ?_);exact jz ((),true) h [0]
   .replace h:=c6 (uF hb) h;refine ga (aF rfl yt) ?_;refine pi rfl rfl rfl rfl rfl rfl (ax rfl cF ny rfl) ⟨rfl,trivial⟩ ?_;obtain⟨r6,pq,h⟩:=aa h;refine gc (ay [.tmp 22,.const (.int .i64 (0)),.const (.int .i64 (3))] rfl rfl yx rfl (dU k a0.2.2.1 0 3 r6 pq)) ?_;refine ga (ii rfl) ?_;refine pf ?_;refine mq ?_;refine cQ (s:=26) rfl (λhb=>?_) (λhb=>?_)
    .replace h:=eQ (BV hb) h;iterate 4 refine gn ?_
     refine pt (nl ?_);exact jz ((),true) h [0]
    .replace h:=c6 (uF hb) h;refine ga (aF rfl I6) ?_;refine pi rfl rfl rfl rfl rfl rfl (ax rfl cF ny rfl) ⟨rfl,trivial⟩ ?_;obtain⟨r7,mw,h⟩:=aa h;refine gc (ay [.tmp 28,.const (.int .i64 (1)),.const (.int .i64 (3))] rfl rfl yx rfl (dU k a0.2.2.2.1 1 3 r7 mw)) ?_;refine ga (ii rfl) ?_;refine pf (nl ?_);exact jz ((), !r7) h [0]
 .
  refine cv h (λh=>?_) (λh=>?_)
  .refine sr (cq (nt (rx ?_)));cases h;exact ra
  .refine sk (aj (sr (fl eO ?_)));refine lo lZ ?_;refine ol Bn ?_;refine aq (nt (ai (sr ?_)));refine mq ?_;refine jb (bA rfl) ?_;refine aq (nt ?_);refine ci h (λh=>?_) (λh=>?_)
   .refine sr (cq (nt (aA (bh (bo ?_)))));cases h;exact ra
   .refine sr (mq ?_);refine jb (ml rfl) ?_;refine aq (nt ?_);refine ci h (λh=>?_) (λh=>?_)
    .refine sr (cq (nt (aA (bh (bo ?_)))));cases h;exact ra
    .refine bg (aL (tn (dk (Z:=Unit) (α:=Unit) (λz9 x8=>[(1,Pt b1)]) (λz9 x8=>[.obj b1 26 (.rep au a0)]) (λe=>e=r) h (λe h=>Option.some.inj h) (λK hR h=>?_) (λz9 x8 h=>?_))))
     .refine sr (fl eO ?_);refine lo lZ ?_;refine ol Bn ?_;refine fq rfl ?_;refine nt (ai (aG (λx j=>[(1,Pt b1),(42,.rep (.slice (.slice Tl)) a0.2.2.2.2.1),(43,I (a0.2.2.2.2.1.length:Int)),(44,I j)]) (λx j=>[.obj b1 26 (.rep au a0)]) (fi k a0) k () 0 (λ_=>rfl) h (SE.fin [0] ⟨rfl,rfl,rfl,rfl,trivial⟩ rfl) (λn x j h=>?_)));unfold fi at h;refine sr (jb (bA rfl) ?_);refine nt (aj (ci h (λh=>?_) (λh=>?_)))
      .refine sk (aj (ai (sr ?_)));obtain⟨Y,J,h⟩:=aa h;refine jb (aW (t:=(.slice Tl)) rfl Bn zr J) ?_;refine ja (av (t:=(.slice Tl)) rfl zr rfl) ?_;refine aq (nt (sr ?_));refine lo iM ?_;refine mq ?_;obtain⟨mc,O,h⟩:=aa h;refine jb (ay [.tmp 48,.tmp 49] rfl rfl SY rfl (tR k a0 Y mc O)) ?_;refine aq (nt (sr ?_));refine mq ?_;refine jb (fB rfl) ?_;refine nt (cn h (λh=>?_) (λh=>?_))
       .refine sr (mq ?_);refine aq (nt (aA (br (bh (bo ?_)))));obtain rfl:=hR _ h;exact ra
       .refine bg (aL (tn (ab ?_)));obtain⟨X,F,h⟩:=aa h;refine jb (bp rfl F) ?_;refine mq (nl ?_);exact jz ((),X) h [0]
      .refine xa ?_;exact jz ((),()) h [0]
     .refine aj (sr (fl nP ?_));refine lo xE ?_;refine ol NG ?_;refine jb (ml rfl) ?_;refine nt (ci h (λh=>?_) (λh=>?_))
      .refine sr (cq (nt (rx ?_)));cases h;exact ra
      .refine sk (dk (Z:=Unit) (α:=Unit) (λu y=>[]) (λu y=>[]) (λe=>e=r) h (λe h=>Option.some.inj h) (λK hR h=>?_) (λu y h=>?_))
       .refine sr (fl nP ?_);refine lo xE ?_;refine ol NG ?_;refine fq rfl ?_;refine nt (ai (aG (λl c=>[(1,Pt b1),(60,Rs bf a0.2.2.2.2.2),(61,I (a0.2.2.2.2.2.length:Int)),(62,I c)]) (λl c=>[.obj b1 26 (.rep au a0)]) (fh k a0) k () 0 (λ_=>rfl) h (SE.fin [0] ⟨rfl,rfl,rfl,rfl,trivial⟩ rfl) (λn l c h=>?_)));unfold fh at h;refine sr (jb (bA rfl) ?_);refine nt (aj (ci h (λh=>?_) (λh=>?_)))
        .refine sk (aj (ai (sr ?_)));obtain⟨U,E,h⟩:=aa h;refine jb (aW (t:=bf) rfl NG ry E) ?_;refine ja (av (t:=bf) rfl ry rfl) ?_;refine aS rfl rfl rfl (ba rfl Bo Jx) trivial λzM=>?_;refine aM rfl rfl (aI rfl ry rfl rfl rfl) ⟨rfl,rfl,trivial⟩ ?_;refine nt (sr (fr 1 ?_));refine lo iM ?_;refine fr 1 ?_;refine lo ry ?_;obtain⟨gw,M,h⟩:=aa h;refine jb (ay [.tmp 66,.tmp 67] rfl rfl U2 rfl (qI k a0 U gw M)) ?_;refine aq (nt (sr ?_));refine mq ?_;refine jb (fB rfl) ?_;refine nt (cn h (λh=>?_) (λh=>?_))
         .refine sr (mq ?_);refine aq (nt (aA (br (bh (bo ?_)))));obtain rfl:=hR _ h;exact ra
         .refine bg (aL (tn (ab ?_)));obtain⟨Q,D,h⟩:=aa h;refine jb (bp rfl D) ?_;refine mq (nl ?_);exact jz ((),Q) h [1]
        .refine xa ?_;exact jz ((),()) h []
       .refine sr (cq (nt (aA ?_)));cases h;exact ra
def cJ(k:Nat)(a0:ae)(a1:Int):Nat->((List Int)×Int)->Option (List Int)
 |0,_=>none
 |n+1,y5=>
  if y5.2 < 5 then((((cM (0≤y5.2/\y5.2 < 5)).bind λ_=>
  (fa k a1 y5.2).bind λe=>
  if e=true then((cM (0≤y5.2/\y5.2 < 5)).bind λ_=>
  some (List.set (List.set y5.1 (Int.toNat y5.2) (-1:Int)) (Int.toNat y5.2) a0.2.1)) else(some (List.set y5.1 (Int.toNat y5.2) (-1:Int)))):Option ((List Int))).bind λx7=>
  (ck (y5.2+1)).bind λc=>
  cJ k a0 a1 n (x7,c)) else(some y5.1)
def eT(k:Nat)(a0:ae)(a1:Int):Option (List Int):=
 ((cJ k a0 a1 k ([0,0,0,0,0],0)):Option ((List Int))).bind λx3=>
 some x3
theorem qE{M:Md Tryz.prog}{bm:Nat}{c0 c1 c2 c3 c4 c5:Value}(hK:Kn M bm 0 [c0,c1,c2,c3,c4,c5])(k:Nat)(a0:ae)(a1:Int)(r:(List Int))(h:eT k a0 a1=some r):
 bP M 78 [.rep (.mo (Pv bm) [c0,c1,c2,c3,c4,c5] au) a0,.eq (.int .u8 a1)] [] (λ_:Unit=>(bD [.rep Tr r],[])):=by
 unfold eT at h
 replace h:=be h
 refine bP.of 24 Tryz.func78 rfl Tryz.ntmps78 rfl λS w0=>?_
 refine sr ?_
 refine aS rfl rfl rfl (ba rfl KC Nq) trivial λb1=>?_
 refine nt ?_
 refine sr ?_
 refine aS rfl rfl rfl (ba rfl KC Nq) trivial λb2=>?_
 refine nt ?_
 refine aJ (Z:=Unit) (α:=(List Int)) (λz4 x3=>[(4,Pt b1),(5,Pt b2)]) (λz4 x3=>[.obj b1 80 (.rep Tr [0,0,0,0,0]),.obj b2 80 (.rep Tr x3)]) h (λK h=>?_) (λz4 x3 h=>?_)
 .
  refine sr (fq rfl ?_);refine nt (ai (aG (λz6 y5=>[(0,.rep (.mo (Pv bm) [c0,c1,c2,c3,c4,c5] au) a0),(1,.eq (.int .u8 a1)),(4,Pt b1),(5,Pt b2),(7,I y5.2)]) (λz6 y5=>[.obj b1 80 (.rep Tr [0,0,0,0,0]),.obj b2 80 (.rep Tr y5.1)]) (cJ k a0 a1) k () ([0,0,0,0,0],0) (λ_=>rfl) h (SE.fin [1,0] ⟨rfl,rfl,rfl,rfl,rfl,trivial⟩ rfl) (λn z6 y5 h=>?_)));unfold cJ at h;refine sr (jb (bA rfl) ?_);refine nt (aj (ci h (λh=>?_) (λh=>?_)))
  .refine sk (aJ (Z:=Unit) (α:=(List Int)) (λz8 x7=>[(0,.rep (.mo (Pv bm) [c0,c1,c2,c3,c4,c5] au) a0),(1,.eq (.int .u8 a1)),(4,Pt b1),(5,Pt b2),(7,I y5.2)]) (λz8 x7=>[.obj b1 80 (.rep Tr [0,0,0,0,0]),.obj b2 80 (.rep Tr x7)]) h (λK h=>?_) (λz8 x7 h=>?_))
   .refine ai (sr (mq ?_));refine aq (nt (sr ?_));refine mq ?_;obtain⟨u9,e,h⟩:=aa h;refine jb (dY rfl Db cF (am e).1 (am e).2) ?_;refine fr 1 ?_;refine aM rfl rfl (gR (t:=Ti) (off:=0) (i:=y5.2) (N:=5) rfl cF .int rfl rfl rfl rfl (am e).1 (am e).2 rfl) ⟨rfl,rfl,trivial⟩ ?_;refine nt (sr ?_);iterate 2 refine mq ?_
    obtain⟨u,l,h⟩:=aa h;refine jb (ay [.tmp 12,.tmp 13] rfl rfl Jc rfl (gV k a1 y5.2 u l)) ?_;refine nt (cv h (λh=>?_) (λh=>?_))
    .refine ab ?_;iterate 2 refine mq ?_
     refine ja (lD rfl) ?_;refine ja (gU rfl ic) ?_;refine ja (iO 1 false rfl CP rfl rfl) ?_;refine ja (jy (t:=Ti) rfl cF (hK.sub 1 1 rfl (le_of_ble_eq_true rfl)) rfl rfl) ?_;obtain⟨x,c,h⟩:=aa h;refine jb (dY rfl Db cF (am c).1 (am c).2) ?_;refine aM rfl rfl (gR (t:=Ti) (off:=0) (i:=y5.2) (N:=5) rfl cF .int rfl rfl rfl rfl (am c).1 (am c).2 rfl) ⟨rfl,rfl,trivial⟩ ?_;refine aH (bn ?_);exact jz ((),List.set (List.set y5.1 (Int.toNat y5.2) (-1:Int)) (Int.toNat y5.2) a0.2.1) h [1,0]
    .refine bg (bn ?_);exact jz ((),List.set y5.1 (Int.toNat y5.2) (-1:Int)) h [1,0]
   .refine ab ?_;obtain⟨s,j,h⟩:=aa h;refine jb (bp rfl j) ?_;refine mq (nl ?_);exact jz ((),(x7,s)) h [0,1]
  .refine xa ?_;exact jz ((),y5.1) h [0,1]
 .
  refine sr (fr 1 ?_);refine lo jv ?_;refine fr 1 ?_;refine aM rfl rfl (aI rfl jv rfl rfl rfl) ⟨rfl,rfl,trivial⟩ ?_;refine nt (aA ?_);obtain rfl:=Option.some.inj h;exact aQ () [.rep Tr x3] 0 ⟨⟨_,_,_,_,_,rfl,(.head _),jv,(t6),rfl⟩,trivial⟩ rfl
def dq(k:Nat)(a0:(List Int))(a1:Int):Nat->Int->Option (Except Int Unit)
 |0,_=>none
 |n+1,y3=>
  if y3 < (a0.length:Int) then((aR a0 y3).bind λx5=>
  if a1=x5 then(some (.error y3)) else((ck (y3+1)).bind λx6=>
  dq k a0 a1 n x6)) else(some (.ok ()))
def gu(k:Nat)(a0:(List Int))(a1:Int):Option Int:=
 bE (α:=Unit) (dq k a0 a1 k 0) (some) λ_=>
 some (-1:Int)
theorem mX(k:Nat)(a0:(List Int))(a1:Int)(r:Int)(h:gu k a0 a1=some r):
 dy Tryz.prog 82 [.rep Tl a0,I a1] [] (λ_:Unit=>(bD [I r],[])):=by
 unfold gu at h
 replace h:=be h
 refine dy.of 19 Tryz.func82 rfl Tryz.ntmps82 rfl λS w0=>?_
 refine sr ?_
 refine cq ?_
 refine nt ?_
 refine dk (Z:=Unit) (α:=Unit) (λz2 x1=>[]) (λz2 x1=>[]) (λe=>e=r) h (λe h=>Option.some.inj h) (λK hR h=>?_) (λz2 x1 h=>?_)
 .
  refine sr (mq ?_);refine ol g7 ?_;refine fq rfl ?_;refine nt (ai (aG (λz4 y3=>[(0,.rep Tl a0),(1,I a1),(7,I (a0.length:Int)),(8,I y3)]) (λz4 y3=>[]) (dq k a0 a1) k () 0 (λ_=>rfl) h (SE.fin [] ⟨rfl,rfl,rfl,rfl,trivial⟩ rfl) (λn z4 y3 h=>?_)));unfold dq at h;refine sr (jb (bA rfl) ?_);refine nt (aj (ci h (λh=>?_) (λh=>?_)))
  .refine sk (aj (ai (sr (mq ?_))));refine aq (nt (sr ?_));iterate 3 refine mq ?_
   obtain⟨x5,j,h⟩:=aa h;refine jb (aW (t:=Ti) rfl g7 cF j) ?_;refine ja (av (t:=Ti) rfl cF rfl) ?_;refine jb (jg rfl) ?_;refine nt (ci h (λh=>?_) (λh=>?_))
   .refine sr (mq ?_);refine aq (nt (aA (br (bh (bo ?_)))));obtain rfl:=hR _ h;exact ra
   .refine bg (aL (tn (ab ?_)));obtain⟨x6,c,h⟩:=aa h;refine jb (bp rfl c) ?_;refine mq (nl ?_);exact jz ((),x6) h []
  .refine xa ?_;exact jz ((),()) h []
 .
  refine sr (cq (nt (aA ?_)));cases h;exact ra
def li(k:Nat)(a0:Int):Option Bool:=
 some (!decide (a0=a0))
theorem rV(k:Nat)(a0:Int)(r:Bool)(h:li k a0=some r):
 dy Tryz.prog 172 [I a0] [] (λ_:Unit=>(bD [.eq (.bool r)],[])):=by
 unfold li at h
 replace h:=be h
 refine dy.of 6 Tryz.func172 rfl Tryz.ntmps172 rfl λS w0=>?_
 refine sr ?_
 refine cq ?_
 refine nt ?_
 refine sr ?_
 iterate 2 refine mq ?_
 refine jb (fB rfl) ?_
 refine aq ?_
 refine nt ?_
 refine aA ?_
 cases h
 exact ra
def o5(k:Nat)(a0:Int)(a1:Int):Option Bool:=
 (((li k a0).bind λr3=>
 if r3=true then((li k a1).bind λr4=>
 if¬(r4=true) then(some true) else(some (decide (a0 < a1)))) else(some (decide (a0 < a1)))):Option (Bool)).bind λx1=>
 some x1
theorem AK(k:Nat)(a0:Int)(a1:Int)(r:Bool)(h:o5 k a0 a1=some r):
 dy Tryz.prog 162 [I a0,I a1] [] (λ_:Unit=>(bD [.eq (.bool r)],[])):=by
 unfold o5 at h
 replace h:=be h
 refine dy.of 17 Tryz.func162 rfl Tryz.ntmps162 rfl λS w0=>?_
 refine sr ?_
 refine cq ?_
 refine nt ?_
 refine aJ (Z:=Unit) (α:=Bool) (λz2 x1=>[(4,.eq (.bool x1))]) (λz2 x1=>[]) h (λK h=>?_) (λz2 x1 h=>?_)
 .
  refine ab (mq ?_);obtain⟨r3,e,h⟩:=aa h;refine ja (ay [.tmp 5] rfl rfl Oo rfl (rV k a0 r3 e)) ?_;refine mq ?_;refine cQ (s:=7) rfl (λhb=>?_) (λhb=>?_)
  .replace h:=eQ (KT hb) h;refine gm ?_;obtain⟨r4,c,h⟩:=aa h;refine ga (ay [.tmp 8] rfl rfl Oo rfl (rV k a1 r4 c)) ?_;refine ga (ii rfl) ?_;refine pt ?_;refine mq ?_;refine cQ (s:=12) rfl (λhb=>?_) (λhb=>?_)
   .replace h:=eQ (BV hb) h;iterate 3 refine gn ?_
    refine pt ?_;refine aq (nl ?_);exact jz ((),true) h []
   .replace h:=c6 (uF hb) h;refine gm ?_;refine gm ?_;refine gb (bA rfl) ?_;refine pf ?_;refine aq (nl ?_);exact jz ((),decide (a0 < a1)) h []
  .replace h:=c6 (KU hb) h;iterate 3 refine gn ?_
   refine pf ?_;refine mq ?_;refine gm ?_;refine gm ?_;refine gb (bA rfl) ?_;refine pf ?_;refine aq (nl ?_);exact jz ((),decide (a0 < a1)) h []
 .
  refine aA ?_;cases h;exact ra
def bJ(k:Nat)(a1:Int):Nat->((List Int)×Int)->Option (List Int)
 |0,_=>none
 |n+1,y6=>
  ((if a1 < y6.2 then((aR y6.1 y6.2).bind λu=>
  (ck (y6.2 - 1)).bind λs=>
  (aR y6.1 s).bind λr=>
  (o5 k u r).bind λx=>
  some x) else(some false)):Option (Bool)).bind λx8=>
  if x8=true then((ck (y6.2 - 1)).bind λe=>
  (ck (y6.2 - 1)).bind λl=>
  (aR y6.1 l).bind λc=>
  (aR y6.1 y6.2).bind λj=>
  (aR y6.1 y6.2).bind λD=>
  (aR (List.set y6.1 (Int.toNat y6.2) c) e).bind λy=>
  (ck (y6.2 - 1)).bind λh=>
  bJ k a1 n (List.set (List.set y6.1 (Int.toNat y6.2) c) (Int.toNat e) j,h)) else(some y6.1)
def bi(k:Nat)(a1:Int)(a2:Int):Nat->((List Int)×Int)->Option (List Int)
 |0,_=>none
 |n+1,y2=>
  if y2.2 < a2 then(((bJ k a1 k (y2.1,y2.2)):Option ((List Int))).bind λx4=>
  (ck (y2.2+1)).bind λc=>
  bi k a1 a2 n (x4,c)) else(some y2.1)
def bX(k:Nat)(a0:(List Int))(a1:Int)(a2:Int):Option (List Int):=
 (ck (a1+1)).bind λx1=>
 bi k a1 a2 k (a0,x1)
theorem jw(k:Nat)(a0:(List Int))(c:Value)(a1:Int)(a2:Int)(r:(List Int))(h:bX k a0 a1 a2=some r):
 dy Tryz.prog 156 [.eq c,I a1,I a2] [.sl c 3 Ti a0] (λ_:Unit=>(bD [],[.sl c 3 Ti r])):=by
 unfold bX at h
 replace h:=be h
 refine dy.of 49 Tryz.func156 rfl Tryz.ntmps156 rfl λS w0=>?_
 refine sr ?_
 refine mq ?_
 obtain⟨x1,Wq,h⟩:=aa h
 refine jb (bp rfl Wq) ?_
 refine aq ?_
 refine nt ?_
 refine ai ?_
 refine aG (λz3 y2=>[(0,.eq c),(1,I a1),(2,I a2),(6,I y2.2)]) (λz3 y2=>[.sl c 3 Ti y2.1]) (bi k a1 a2) k () (a0,x1) (λ_=>rfl) h (SE.fin [0] ⟨rfl,rfl,rfl,rfl,trivial⟩ rfl) (λn z3 y2 h=>?_)
 unfold bi at h
 refine aj ?_
 refine sr ?_
 iterate 2 refine mq ?_
 refine jb (bA rfl) ?_
 refine nt ?_
 refine ci h (λh=>?_) (λh=>?_)
 .
  refine sk (aJ (Z:=Unit) (α:=(List Int)) (λz5 x4=>[(0,.eq c),(1,I a1),(2,I a2),(6,I y2.2)]) (λz5 x4=>[.sl c 3 Ti x4]) h (λK h=>?_) (λz5 x4 h=>?_))
  .refine ai (sr (mq ?_));refine aq (nt (ai ?_));refine aG (λz7 y6=>[(0,.eq c),(1,I a1),(2,I a2),(6,I y2.2),(7,I y6.2)]) (λz7 y6=>[.sl c 3 Ti y6.1]) (bJ k a1) k () (y2.1,y2.2) (λ_=>rfl) h (SE.fin [0] ⟨rfl,rfl,rfl,rfl,rfl,trivial⟩ rfl) (λn z7 y6 h=>?_);unfold bJ at h;refine aj (aJ (Z:=Unit) (α:=Bool) (λz9 x8=>[(0,.eq c),(1,I a1),(2,I a2),(6,I y2.2),(7,I y6.2),(30,.eq (.bool x8))]) (λz9 x8=>[.sl c 3 Ti y6.1]) h (λK h=>?_) (λz9 x8 h=>?_))
   .refine co ?_;refine dm ?_;refine dm ?_;refine db (ml rfl) ?_;refine sc rfl rfl rfl (aV rfl) ⟨rfl,trivial⟩ (λhb=>?_) (λhb=>?_)
    .replace h:=eQ (ta hb) h;refine bZ rfl rfl rfl rfl rfl (aV rfl) ⟨rfl,rfl,trivial⟩ ?_;refine bZ rfl rfl rfl rfl rfl (aV rfl) ⟨rfl,rfl,trivial⟩ ?_;obtain⟨Wb,x,h⟩:=aa h;refine fu 0 rfl rfl rfl rfl rfl rfl (bB (t:=Ti) rfl g7 cF x) ⟨rfl,rfl,rfl,trivial⟩ ?_;refine fu 0 rfl rfl rfl rfl rfl rfl (eg (i:=Int.toNat y6.2) (off:=0) rfl cF (λ_=>rfl) rfl (dR x).2.2 rfl) ⟨rfl,rfl,trivial⟩ ?_;refine bZ rfl rfl rfl rfl rfl (aV rfl) ⟨rfl,rfl,trivial⟩ ?_;refine bZ rfl rfl rfl rfl rfl (aV rfl) ⟨rfl,rfl,trivial⟩ ?_;obtain⟨Wa,pq,h⟩:=aa h;refine bZ rfl rfl rfl rfl rfl (dM rfl pq) ⟨rfl,rfl,rfl,trivial⟩ ?_;obtain⟨V9,u,h⟩:=aa h;refine fu 0 rfl rfl rfl rfl rfl rfl (bB (t:=Ti) rfl g7 cF u) ⟨rfl,rfl,rfl,trivial⟩ ?_;refine fu 0 rfl rfl rfl rfl rfl rfl (eg (i:=Int.toNat Wa) (off:=0) rfl cF (λ_=>rfl) rfl (dR u).2.2 rfl) ⟨rfl,rfl,trivial⟩ ?_;refine df dz ?_;obtain⟨F,qt,h⟩:=aa h;refine gb (ay [.tmp 23,.tmp 28] rfl rfl SK rfl (AK k Wb V9 F qt)) ?_;refine pt (nl ?_);exact jz ((),F) h [0]
    .replace h:=c6 (tc hb) h;iterate 9 refine dg ?_
     refine df dz ?_;refine gn ?_;refine pf (nl ?_);exact jz ((),false) h [0]
   .refine cv h (λh=>?_) (λh=>?_)
    .refine sk (aj (ai (nu ?_)));refine bb rfl rfl rfl (aV rfl) ⟨rfl,trivial⟩ ?_;refine bb rfl rfl rfl (aV rfl) ⟨rfl,trivial⟩ ?_;refine bb rfl rfl rfl (aV rfl) ⟨rfl,trivial⟩ ?_;refine bb rfl rfl rfl (aV rfl) ⟨rfl,trivial⟩ ?_;obtain⟨y,mw,h⟩:=aa h;refine bb rfl rfl rfl (dM rfl mw) ⟨rfl,rfl,trivial⟩ ?_;refine bb rfl rfl rfl (aV rfl) ⟨rfl,trivial⟩ ?_;refine bb rfl rfl rfl (aV rfl) ⟨rfl,trivial⟩ ?_;obtain⟨V8,mc,h⟩:=aa h;refine bb rfl rfl rfl (dM rfl mc) ⟨rfl,rfl,trivial⟩ ?_;obtain⟨E,s,h⟩:=aa h;refine eR 0 rfl rfl rfl rfl (bB (t:=Ti) rfl g7 cF s) ⟨rfl,rfl,trivial⟩ ?_;refine eR 0 rfl rfl rfl rfl (eg (i:=Int.toNat V8) (off:=0) rfl cF (λ_=>rfl) rfl (dR s).2.2 rfl) ⟨rfl,trivial⟩ ?_;refine bb rfl rfl rfl (aV rfl) ⟨rfl,trivial⟩ ?_;refine bb rfl rfl rfl (aV rfl) ⟨rfl,trivial⟩ ?_;obtain⟨D,l,h⟩:=aa h;refine eR 0 rfl rfl rfl rfl (bB (t:=Ti) rfl g7 cF l) ⟨rfl,rfl,trivial⟩ ?_;refine eR 0 rfl rfl rfl rfl (eg (i:=Int.toNat y6.2) (off:=0) rfl cF (λ_=>rfl) rfl (dR l).2.2 rfl) ⟨rfl,trivial⟩ ?_;obtain⟨WA,j,h⟩:=aa h;refine eR 0 rfl rfl rfl rfl (bB (t:=Ti) rfl g7 cF j) ⟨rfl,rfl,trivial⟩ ?_;refine qX 15 [true,true,false,false,false,true,true,true,true,true,true,true,true,true,true] [48] [] [] rfl (by kernel_rfl) (by kernel_rfl) (by kernel_rfl) dz (λvs hv hB=>?_);obtain⟨w0,WR,rfl,Wp⟩:=an hv;obtain⟨w1,WQ,rfl,Wn⟩:=an Wp;obtain⟨w2,WP,rfl,Wm⟩:=an Wn;obtain⟨w3,WO,rfl,Wj⟩:=an Wm;obtain⟨w4,WN,rfl,Wi⟩:=an Wj;obtain⟨w5,WM,rfl,Wh⟩:=an Wi;obtain⟨w6,WL,rfl,Wg⟩:=an Wh;obtain⟨w7,WJ,rfl,We⟩:=an Wg;obtain⟨w8,WI,rfl,Wc⟩:=an We;obtain⟨w9,Wy,rfl,X⟩:=an Wc;obtain⟨WH,Wx,rfl,U⟩:=an X;obtain⟨WG,Wv,rfl,Q⟩:=an U;obtain⟨WE,Wu,rfl,O⟩:=an Q;obtain⟨WC,Wt,rfl,M⟩:=an O;obtain⟨WB,Ws,rfl,J⟩:=an M;obtain rfl:=nK J;refine⟨[0],[.sl c 3 Ti y6.1],by kernel_rfl,by decide,?_⟩;refine pg rfl rfl (eX (i:=Int.toNat y6.2) rfl cF rfl (nM j) rfl .int rfl) ⟨rfl,rfl,trivial⟩ (by kernel_rfl) ?_;obtain⟨Wz,e,h⟩:=aa h;refine tq rfl rfl rfl rfl (bB (t:=Ti) rfl g7 cF e) ⟨rfl,rfl,trivial⟩ (by kernel_rfl) ?_;refine pg rfl rfl (eX (i:=Int.toNat y) rfl cF rfl (nM e) rfl .int rfl) ⟨rfl,rfl,trivial⟩ (by kernel_rfl) ?_;refine vv ?_;refine bM (SE.fin (Γ':=[(0,.eq c),(1,I a1),(2,I a2),(6,I y2.2),(7,I y6.2)]) (Δ':=[.sl c 3 Ti (List.set (List.set y6.1 (Int.toNat y6.2) E) (Int.toNat y) D)]) [0] ⟨rfl,rfl,rfl,rfl,rfl,trivial⟩ rfl) ?_;refine aL (tn (ab (mq ?_)));obtain⟨zM,gw,h⟩:=aa h;refine jb (dM rfl gw) ?_;refine aq (nl ?_);exact jz ((),(List.set (List.set y6.1 (Int.toNat y6.2) E) (Int.toNat y) D,zM)) h [0]
    .refine fD (bO (bO (c7 (bn ?_))));exact jz ((),y6.1) h [0]
  .refine ab (mq ?_);obtain⟨zz,Y,h⟩:=aa h;refine jb (bp rfl Y) ?_;refine aq (nl ?_);exact jz ((),(x4,zz)) h [0]
 .
  refine fD (bO (bO (c7 (ju ?_))));cases h;exact aQ () [] 1 trivial rfl
def kD(k:Nat)(a0:Int):Option Int:=
 ((if 4294967296≤a0 then(some (ix .u64 a0 32,32)) else(some (a0,0))):Option (Int×Int)).bind λx1=>
 ((if 65536≤x1.1 then((ck (x1.2+16)).bind λx5=>
 some (ix .u64 x1.1 16,x5)) else(some (x1.1,x1.2))):Option (Int×Int)).bind λx3=>
 ((if 256≤x3.1 then((ck (x3.2+8)).bind λx8=>
 some (ix .u64 x3.1 8,x8)) else(some (x3.1,x3.2))):Option (Int×Int)).bind λx6=>
 (CG MB (IntKind.u8.wrap x6.1)).bind λx9=>
 (ck (x9.toNat:Int)).bind λe=>
 (ck (x6.2+e)).bind λc=>
 some c
theorem qN(k:Nat)(a0:Int)(r:Int)(h:kD k a0=some r):
 dy Tryz.prog 166 [.eq (.int .u64 a0)] [] (λ_:Unit=>(bD [I r],[])):=by
 unfold kD at h
 replace h:=be h
 refine dy.of 25 Tryz.func166 rfl Tryz.ntmps166 rfl λS w0=>?_
 refine sr ?_
 refine cq ?_
 refine nt ?_
 refine aJ (Z:=Unit) (α:=Int×Int) (λz2 x1=>[(0,.eq (.int .u64 x1.1)),(2,I x1.2)]) (λz2 x1=>[]) h (λK h=>?_) (λz2 x1 h=>?_)
 .
  refine sr (mq ?_);refine jb (kG rfl) ?_;refine nt (ci h (λh=>?_) (λh=>?_))
  .refine sr (mq ?_);refine cz rfl (uD rfl (by decide)) ⟨rfl,rfl,trivial⟩ ?_;refine aq (nt (ab ?_));refine cq (nl ?_);exact jz ((),(ix .u64 a0 32,32)) h []
  .refine bg (ao ?_);exact jz ((),(a0,0)) h []
 .
  refine aJ (Z:=Unit) (α:=Int×Int) (λz4 x3=>[(0,.eq (.int .u64 x3.1)),(2,I x3.2)]) (λz4 x3=>[]) h (λK h=>?_) (λz4 x3 h=>?_)
  .refine sr (mq ?_);refine jb (kG rfl) ?_;refine nt (ci h (λh=>?_) (λh=>?_))
   .refine sr (mq ?_);refine cz rfl (uD rfl (by decide)) ⟨rfl,rfl,trivial⟩ ?_;refine aq (nt (ab ?_));refine mq ?_;obtain⟨x5,n,h⟩:=aa h;refine jb (bp rfl n) ?_;refine aq (nl ?_);exact jz ((),(ix .u64 x1.1 16,x5)) h []
   .refine bg (ao ?_);exact jz ((),(x1.1,x1.2)) h []
  .refine aJ (Z:=Unit) (α:=Int×Int) (λz7 x6=>[(0,.eq (.int .u64 x6.1)),(2,I x6.2)]) (λz7 x6=>[]) h (λK h=>?_) (λz7 x6 h=>?_)
   .refine sr (mq ?_);refine jb (kG rfl) ?_;refine nt (ci h (λh=>?_) (λh=>?_))
    .refine sr (mq ?_);refine cz rfl (uD rfl (by decide)) ⟨rfl,rfl,trivial⟩ ?_;refine aq (nt (ab ?_));refine mq ?_;obtain⟨x8,l,h⟩:=aa h;refine jb (bp rfl l) ?_;refine aq (nl ?_);exact jz ((),(ix .u64 x3.1 8,x8)) h []
    .refine bg (ao ?_);exact jz ((),(x3.1,x3.2)) h []
   .refine sr ?_;iterate 2 refine mq ?_
    refine ja (sC rfl TW U5) ?_;obtain⟨x9,j,h⟩:=aa h;refine ja (zN rfl U9 j) ?_;obtain⟨u,e,h⟩:=aa h;refine ja (zO rfl U5 U3 e) ?_;obtain⟨s,c,h⟩:=aa h;refine jb (bp rfl c) ?_;refine aq (nt (aA ?_));cases h;exact ra
def pP(k:Nat)(a0:Int):Option Int:=
 (kD k a0).bind λr1=>
 some r1
theorem C3(k:Nat)(a0:Int)(r:Int)(h:pP k a0=some r):
 dy Tryz.prog 155 [.eq (.int .u64 a0)] [] (λ_:Unit=>(bD [I r],[])):=by
 unfold pP at h
 replace h:=be h
 refine dy.of 8 Tryz.func155 rfl Tryz.ntmps155 rfl λS w0=>?_
 refine sr ?_
 refine cq ?_
 refine nt ?_
 refine aj ?_
 refine Ko (λhb=>(by cases hb)) (λhb=>?_)
 refine sk ?_
 refine sr ?_
 refine mq ?_
 obtain⟨r1,c,h⟩:=aa h
 have e:=qN k a0 r1 c
 refine ja (ay [.tmp 6] rfl rfl SJ rfl e) ?_
 refine aq ?_
 refine nt ?_
 refine aA ?_
 cases h
 exact ra
def cH(k:Nat)(a0:(List Int))(a1:Int)(a2:Int)(a3:Int):Nat->Unit->Option (List Int)
 |0,_=>none
 |n+1,y1=>
  (ck (a2 - a1)).bind λx3=>
  if x3≤12 then((bX k a0 a1 a2).bind λr4=>
  some r4) else(if a3=0 then(none) else(none))
def cV(k:Nat)(a0:(List Int))(a1:Int)(a2:Int)(a3:Int):Option (List Int):=
 cH k a0 a1 a2 a3 k ()
theorem l6(k:Nat)(a0:(List Int))(c:Value)(a1:Int)(a2:Int)(a3:Int)(r:(List Int))(h:cV k a0 a1 a2 a3=some r):
 dy Tryz.prog 154 [.eq c,I a1,I a2,I a3] [.sl c 3 Ti a0] (λ_:Unit=>(bD [],[.sl c 3 Ti r])):=by
 unfold cV at h
 replace h:=be h
 refine dy.of 134 Tryz.func154 rfl Tryz.ntmps154 rfl λS w0=>?_
 refine sr ?_
 refine cq ?_
 refine nt ?_
 refine sr ?_
 refine cq ?_
 refine nt ?_
 refine ai ?_
 refine aG (λz2 y1=>[(0,.eq c),(1,I a1),(2,I a2),(3,I a3),(8,.eq (.bool true)),(9,.eq (.bool true))]) (λz2 y1=>[.sl c 3 Ti a0]) (cH k a0 a1 a2 a3) k () () (λ_=>rfl) h (SE.fin [0] ⟨rfl,rfl,rfl,rfl,rfl,rfl,trivial⟩ rfl) (λn z2 y1 h=>?_)
 unfold cH at h
 refine ai ?_
 refine sr ?_
 iterate 2 refine mq ?_
 obtain⟨x3,e,h⟩:=aa h
 refine jb (dM rfl e) ?_
 refine aq ?_
 refine nt ?_
 refine aj ?_
 refine sr ?_
 refine mq ?_
 refine jb (zL rfl) ?_
 refine nt ?_
 refine ci h (λh=>?_) (λh=>?_)
 .
  refine sr ?_;iterate 3 refine mq ?_
  obtain⟨r4,j,h⟩:=aa h;refine kc (ay [.tmp 24,.tmp 25,.tmp 26] rfl rfl SL rfl (jw k a0 c a1 a2 r4 j)) ?_;refine nt (rx (bh (bo (bh ?_))));cases h;exact aQ () [] 1 trivial rfl
 .
  refine sk (aj (sr (mq ?_)));refine jb (jg rfl) ?_;refine nt (ci h (λh=>?_) (λh=>?_))
  .cases h
  .cases h
def fW(k:Nat)(a0:(List Int)):Option (List Int):=
 (pP k (IntKind.u64.wrap (a0.length:Int))).bind λr1=>
 (cV k a0 0 (a0.length:Int) r1).bind λr2=>
 some r2
theorem tO(k:Nat)(a0:(List Int))(c:Value)(r:(List Int))(h:fW k a0=some r):
 dy Tryz.prog 140 [.eq c] [.sl c 3 Ti a0] (λ_:Unit=>(bD [],[.sl c 3 Ti r])):=by
 unfold fW at h
 replace h:=be h
 refine dy.of 11 Tryz.func140 rfl Tryz.ntmps140 rfl λS w0=>?_
 refine sr ?_
 refine mq ?_
 refine ka (jA rfl rfl g7) ?_
 refine aq ?_
 refine nt ?_
 refine ab ?_
 iterate 3 refine mq ?_
 refine ja (sC rfl U3 Vu) ?_
 obtain⟨r1,j,h⟩:=aa h
 have n:=C3 k (IntKind.u64.wrap (a0.length:Int)) r1 j
 refine ja (ay [.tmp 8] rfl rfl SN rfl n) ?_
 obtain⟨r2,e,h⟩:=aa h
 have l:=l6 k a0 c 0 (a0.length:Int) r1 r2 e
 refine mP rfl rfl rfl (ay [.tmp 5,.const (.int .i64 (0)),.tmp 6,.tmp 9] rfl rfl SO rfl l) ⟨rfl,rfl,rfl,rfl,trivial⟩ ?_
 refine aH ?_
 refine ju ?_
 cases h
 exact aQ () [] 1 trivial rfl
def cK(k:Nat)(a1:Int)(x3:(List (List Int))):Nat->Int->Option (Except (Int ⊕ (List Int)) Unit)
 |0,_=>none
 |n+1,y4=>
  if y4 < (x3.length:Int) then((aR x3 y4).bind λx6=>
  (gu k x6 a1).bind λr7=>
  if 0≤r7 then(((if 0 < r7 then((ck (r7 - 1)).bind λs=>
  (aR x6 s).bind λe=>
  (cM (bQ (length ([]:(List Int))+length [e]))).bind λ_=>
  some (([]:(List Int))++[e])) else(some ([]:(List Int)))):Option ((List Int))).bind λx8=>
  (((ck (r7+1)).bind λl=>
  if l < (x6.length:Int) then((ck (r7+1)).bind λj=>
  (aR x6 j).bind λc=>
  (cM (bQ (length x8+length [c]))).bind λ_=>
  some (x8++[c])) else(some x8)):Option ((List Int))).bind λr=>
  (fW k r).bind λu=>
  some (.error (Sum.inr u:(Int ⊕ (List Int))))) else((ck (y4+1)).bind λh=>
  cK k a1 x3 n h)) else(some (.ok ()))
def ew(k:Nat):Nat->ae->Int->Int->Option ((Int ⊕ (List Int)))
 |0,_,_,_=>none
 |m0+1,a0,a1,a2=>
  bE (α:=Unit) ((aR a0.2.2.2.2.1 a2).bind λx3=>
  cK k a1 x3 k 0) (some) λ_=>
  ((if 0 < a2 then((ck (a2 - 1)).bind λh=>
  ((ew k m0) a0 a1 h).bind λc=>
  if Lp c=true then((ck (1+(Re c))).bind λe=>
  some e) else(some 1)) else(some 1)):Option (Int)).bind λj=>
  some (Sum.inl j:(Int ⊕ (List Int)))
theorem lH{M:Md Tryz.prog}{bm:Nat}{c0 c1 c2 c3 c4 c5:Value}(hK:Kn M bm 0 [c0,c1,c2,c3,c4,c5])(k:Nat):
 ∀(n:Nat) (a0:ae) (a1:Int) (a2:Int) (r:(Int ⊕ (List Int))),ew k n a0 a1 a2=some r->bP M 112 [.rep (.mo (Pv bm) [c0,c1,c2,c3,c4,c5] au) a0,I a1,I a2] ([]) (λ_:Unit=>(bD [.rep (.pl 164 166 Tl) r],[])):=by
 intro n
 induction n with
 |zero=>intro a0 a1 a2 r h;cases h
 |succ m0 ih=>
  intro a0 a1 a2 r h;rw [ew] at h;replace h:=be h;refine bP.of 80 Tryz.func112 rfl Tryz.ntmps112 rfl λS w0=>?_;refine sr (cq (nt ?_));refine dk (Z:=Unit) (α:=Unit) (λz2 x1=>[(0,.rep (.mo (Pv bm) [c0,c1,c2,c3,c4,c5] au) a0),(1,I a1),(2,I a2)]) (λz2 x1=>[]) (λe=>e=r) h (λe h=>Option.some.inj h) (λK hR h=>?_) (λz2 x1 h=>?_)
  .refine sr (mq ?_);refine ja (lD rfl) ?_;refine ja (gU rfl ic) ?_;refine ja (iO 1 false rfl eO rfl rfl) ?_;refine ja (jy (t:=(.slice (.slice Tl))) rfl lZ (hK.sub 4 1 rfl (le_of_ble_eq_true rfl)) rfl rfl) ?_;refine mq ?_;obtain⟨x3,Wb,h⟩:=aa h;refine jb (aW (t:=(.slice Tl)) rfl Bn zr Wb) ?_;refine ja (av (t:=(.slice Tl)) rfl zr rfl) ?_;refine ol oq ?_;refine fq rfl ?_;refine nt (ai (aG (λz5 y4=>[(0,.rep (.mo (Pv bm) [c0,c1,c2,c3,c4,c5] au) a0),(1,I a1),(2,I a2),(21,.rep (.slice Tl) x3),(22,I (x3.length:Int)),(23,I y4)]) (λz5 y4=>[]) (cK k a1 x3) k () 0 (λ_=>rfl) h (SE.fin [] ⟨rfl,rfl,rfl,rfl,rfl,rfl,trivial⟩ rfl) (λn z5 y4 h=>?_)));unfold cK at h;refine sr (jb (bA rfl) ?_);refine nt (aj (ci h (λh=>?_) (λh=>?_)))
   .refine sk (aj (ai (sr ?_)));obtain⟨x6,Wa,h⟩:=aa h;refine jb (aW (t:=Tl) rfl oq eo Wa) ?_;refine ja (av (t:=Tl) rfl eo rfl) ?_;refine aq (nt (sr ?_));iterate 2 refine mq ?_
    obtain⟨r7,Wc,h⟩:=aa h;refine jb (ay [.tmp 27,.tmp 28] rfl rfl Sz rfl (mX k x6 a1 r7 Wc)) ?_;refine aq (nt (sr ?_));refine mq ?_;refine jb (kG rfl) ?_;refine nt (ci h (λh=>?_) (λh=>?_))
    .refine sr (cq (nt ?_));refine aJ (Z:=Value) (α:=(List Int)) (λz9 x8=>[(8,.rep Tl x6),(9,I r7),(10,.eq z9)]) (λz9 x8=>[.sl z9 3 Ti x8]) h (λK h=>?_) (λz9 x8 h=>?_)
     .refine sr (mq ?_);refine jb (ml rfl) ?_;refine nt (ci h (λh=>?_) (λh=>?_))
      .refine ab ?_;iterate 3 refine mq ?_
       obtain⟨Wh,U,h⟩:=aa h;refine jb (dM rfl U) ?_;obtain⟨x,Q,h⟩:=aa h;refine jb (aW (t:=Ti) rfl g7 cF Q) ?_;refine ja (av (t:=Ti) rfl cF rfl) ?_;refine ja (bj (t:=Ti) [(.tmp 39,_)] [x] rfl rfl dL (.cons rfl .int .nil) rfl rfl) ?_;refine d4 (SE.nil 3 Ti) ?_;obtain⟨Wj,Y,h⟩:=aa h;refine dS rfl rfl rfl (cg rfl rfl dL (am Y)) ⟨rfl,rfl,trivial⟩ λzM=>?_;refine aq (nl ?_);exact jz (zM,([]:(List Int))++[x]) h [0]
      .refine bg (ao (bM (SE.nil 3 Ti) ?_));exact jz ((.slice none 0 0),([]:(List Int))) h [0]
     .refine aJ (Z:=Value) (α:=(List Int)) (λc j=>[(10,.eq c)]) (λc j=>[.sl c 3 Ti j]) h (λK h=>?_) (λc j h=>?_)
      .refine sr (mq ?_);obtain⟨Wg,O,h⟩:=aa h;refine jb (bp rfl O) ?_;refine mq ?_;refine ol g7 ?_;refine jb (bA rfl) ?_;refine nt (ci h (λh=>?_) (λh=>?_))
       .refine ab ?_;iterate 3 refine mq ?_
        obtain⟨We,J,h⟩:=aa h;refine jb (bp rfl J) ?_;obtain⟨u,F,h⟩:=aa h;refine jb (aW (t:=Ti) rfl g7 cF F) ?_;refine ja (av (t:=Ti) rfl cF rfl) ?_;refine ja (bj (t:=Ti) [(.tmp 52,_)] [u] rfl rfl dL (.cons rfl .int .nil) rfl rfl) ?_;obtain⟨Wi,X,h⟩:=aa h;refine dS rfl rfl rfl (cg rfl rfl dL (am X)) ⟨rfl,rfl,trivial⟩ λzz=>?_;refine aq (nl ?_);exact jz (zz,x8++[u]) h [0]
       .refine bg (ao ?_);exact jz (z9,x8) h [0]
      .refine sr (mq ?_);obtain⟨V9,mc,h⟩:=aa h;refine ka (ay [.tmp 55] rfl rfl SQ rfl (tO k j c V9 mc)) ?_;refine nt (sr (mq ?_));refine d4 (ip [10,55,57] ⟨rfl,rfl,rfl,trivial⟩) ?_;refine ja (eB [(0,.tmp 57,_)] rfl Ri N5 Qk (jV ⟨rfl,trivial⟩) rfl) ?_;refine ja (Lx (t0:=164) (t:=Ti) rfl Vs) ?_;refine aq (nt (aA (br (bh (bo ?_)))));obtain rfl:=hR _ h;exact ra
    .refine bg (aL (tn (ab ?_)));obtain⟨qt,E,h⟩:=aa h;refine jb (bp rfl E) ?_;refine mq (nl ?_);exact jz ((),qt) h []
   .refine xa ?_;exact jz ((),()) h []
  .refine sr (cq (nt ?_));refine aJ (Z:=Unit) (α:=Int) (λs l=>[(11,I l)]) (λs l=>[]) h (λK h=>?_) (λs l h=>?_)
   .refine sr (mq ?_);refine jb (ml rfl) ?_;refine nt (ci h (λh=>?_) (λh=>?_))
    .refine sr ?_;iterate 3 refine mq ?_
     obtain⟨pq,D,h⟩:=aa h;refine jb (dM rfl D) ?_;obtain⟨V8,gw,h⟩:=aa h;refine jc (aX [.tmp 64,.tmp 65,.tmp 67] rfl rfl Jd rfl (ih a0 a1 pq V8 gw)) ?_;refine cz rfl (DJ rfl Hg (by decide)) ⟨rfl,trivial⟩ ?_;refine mq ?_;refine xr ?_;refine xr ?_;refine aS rfl rfl rfl (ba rfl GE OD) trivial λWm=>?_;refine aM rfl rfl (aI rfl Of trivial rfl rfl) ⟨rfl,rfl,trivial⟩ ?_;refine aq (nt (sr ?_));refine mq (nt ?_);refine cv h (λh=>?_) (λh=>?_)
     .refine ab (mq ?_);refine fl Ec ?_;refine lo cF ?_;obtain⟨mw,y,h⟩:=aa h;refine jb (bp rfl y) ?_;refine aq (nl ?_);exact jz ((),mw) h []
     .refine bg (ao ?_);exact jz ((),1) h []
    .refine bg (ao ?_);exact jz ((),1) h []
   .refine sr (mq ?_);refine ja (eB [(0,.tmp 77,_)] rfl Rj GE Ql (jV ⟨rfl,trivial⟩) rfl) ?_;refine ja (Ly (t1:=166) (t:=Ti) rfl Vt) ?_;refine aq (nt (aA ?_));cases h;exact ra
def iJ(k:Nat)(a0:Oy):Option (List Int):=
 some ([]:(List Int))
theorem qH(k:Nat)(a0:Oy)(r:(List Int))(h:iJ k a0=some r):
 dy Tryz.prog 190 [.rep Q5 a0] [] (λ_:Unit=>(bD [.rep Tl r],[])):=by
 unfold iJ at h
 replace h:=be h
 refine dy.of 3 Tryz.func190 rfl Tryz.ntmps190 rfl λS w0=>?_
 refine sr ?_
 refine bx λb1=>?_
 refine cq ?_
 refine nt ?_
 refine sr ?_
 refine cq ?_
 refine nt ?_
 refine aA ?_
 refine bM (fA (t:=Tl) (x:=([]:(List Int))) 2 rfl .nil rfl rfl) ?_
 cases h
 exact ra
def iH(k:Nat)(a0:Ox):Option (List Int):=
 some a0
theorem qC(k:Nat)(a0:Ox)(r:(List Int))(h:iH k a0=some r):
 dy Tryz.prog 191 [.rep Q4 a0] [] (λ_:Unit=>(bD [.rep Tl r],[])):=by
 unfold iH at h
 replace h:=be h
 refine dy.of 5 Tryz.func191 rfl Tryz.ntmps191 rfl λS w0=>?_
 refine sr ?_
 refine bx λb1=>?_
 refine cq ?_
 refine nt ?_
 refine sr ?_
 refine fl MO ?_
 refine lo eo ?_
 refine aq ?_
 refine nt ?_
 refine aA ?_
 cases h
 exact ra
def bY(k:Nat)(a0:ae)(a1:(List Int))(r5:(List Int)):Nat->Int->Option (Except Int Unit)
 |0,_=>none
 |n+1,y6=>
  if y6 < (r5.length:Int) then((aR r5 y6).bind λx8=>
  (cM (0≤x8/\x8 < 5)).bind λ_=>
  (aR a1 x8).bind λe=>
  if(sY 0 a0.2.1)≤e then(some (.error x8)) else((ck (y6+1)).bind λc=>
  bY k a0 a1 r5 n c)) else(some (.ok ()))
def dD(k:Nat)(a0:ae)(a1:(List Int))(a2:Int)(a3:Int):Option Int:=
 bE (α:=Unit) ((ew k k a0 a2 a3).bind λr4=>
 (Jo r4 (λn=>iJ k n) (λl=>iH k l)).bind λr5=>
 bY k a0 a1 r5 k 0) (some) λ_=>
 some (-1:Int)
theorem j7{M:Md Tryz.prog}{bm:Nat}{c0 c1 c2 c3 c4 c5:Value}(hK:Kn M bm 0 [c0,c1,c2,c3,c4,c5])(k:Nat)(a0:ae)(a1:(List Int))(a2:Int)(a3:Int)(r:Int)(h:dD k a0 a1 a2 a3=some r):
    bP M 113 [.rep (.mo (Pv bm) [c0,c1,c2,c3,c4,c5] au) a0,.rep Tr a1,.eq (.int .i64 a2),.eq (.int .i64 a3)] [] (λ_:Unit=>(bD [.eq (.int .i64 r)],[])):=by
  unfold dD at h
  replace h:=be h
  refine bP.of 33 Tryz.func113 rfl Tryz.ntmps113 rfl λS w0=>?_
  refine aj ?_
  refine ab ?_
  refine aS rfl rfl rfl (wR rfl rfl) ⟨rfl,trivial⟩ λb1=>?_
  refine EI rfl ?_
  refine aH ?_
  refine ao ?_
  show JC _ _ _ _ _
  refine dk (Z:=Unit) (α:=Unit) (λz3 x2=>[]) (λz3 x2=>[]) (λe=>e=r) h (λe h=>Option.some.inj h) (λK hR h=>?_) (λz3 x2 h=>?_)
  .
    refine aj ?_
    refine ab ?_
    refine ij rfl rfl ?_
    refine ij rfl rfl ?_
    refine ij rfl rfl ?_
    obtain⟨r4,D,h⟩:=aa h
    have E:=lH hK k k a0 a2 a3 r4 D
    refine cz rfl (aX [.tmp 11,.tmp 12,.tmp 13] rfl rfl Jd rfl E) ⟨rfl,rfl,rfl,trivial⟩ ?_
    obtain⟨r5,c,h⟩:=aa h
    refine cz rfl (LA (r:=.rep Tl r5) rfl rfl vW vV (λn hd=>.agI (qH k n r5 (by rw [hd] at c;exact c))) (λl hd=>.agS (qC k l r5 (by rw [hd] at c;exact c)))) ⟨rfl,trivial⟩ ?_
    refine cz rfl (rG rfl rfl g7) ⟨rfl,trivial⟩ ?_
    refine fq rfl ?_
    refine aH ?_
    refine ao ?_
    show JC _ _ _ _ _
    refine ai ?_
    refine aG (λz7 y6=>[(0,.rep (.mo (Pv bm) [c0,c1,c2,c3,c4,c5] au) a0),(5,.eq (Pv b1)),(15,.rep Tl r5),(16,.eq (.int .i64 (r5.length:Int))),(17,.eq (.int .i64 y6))]) (λz7 y6=>[.obj b1 80 (.rep Tr a1)]) (bY k a0 a1 r5) k () 0 (λ_=>rfl) h (SE.fin [0] ⟨rfl,rfl,rfl,rfl,rfl,trivial⟩ rfl) (λn z7 y6 h=>?_)
    unfold bY at h
    refine aj ?_
    refine ab ?_
    refine cz rfl (bA rfl) ⟨rfl,rfl,trivial⟩ ?_
    refine aH ?_
    refine ao ?_
    show JC _ _ _ _ _
    refine aj ?_
    refine ig rfl (λhb=>?_) (λhb=>?_)
    . replace h:=eQ (ta hb) h
      refine bg ?_
      refine ao ?_
      show JC _ _ _ _ _
      refine aj ?_
      refine ai ?_
      refine aj ?_
      refine ab ?_
      obtain⟨x8,y,h⟩:=aa h
      refine cz rfl (aW (t:=Ti) rfl g7 cF y) ⟨rfl,rfl,trivial⟩ ?_
      refine cz rfl (av (t:=Ti) rfl cF rfl) ⟨rfl,trivial⟩ ?_
      refine vz rfl rfl ?_
      refine aH ?_
      refine ao ?_
      show JC _ _ _ _ _
      refine aj ?_
      refine co ?_
      refine fM rfl rfl rfl (aV rfl) ⟨rfl,trivial⟩ ?_
      obtain⟨u9,u,h⟩:=aa h
      refine fM rfl rfl rfl (dY rfl Db cF (am u).1 (am u).2) ⟨rfl,rfl,trivial⟩ ?_
      obtain⟨F,s,h⟩:=aa h
      refine vC 0 rfl rfl rfl rfl (nB (t:=Ti) (off:=0) (i:=x8) (N:=5) rfl cF (λ_=>rfl) rfl rfl rfl rfl s) ⟨rfl,trivial⟩ ?_
      refine fM rfl rfl rfl (aV rfl) ⟨rfl,trivial⟩ ?_
      refine fM rfl rfl rfl (lD rfl) ⟨rfl,trivial⟩ ?_
      refine fM rfl rfl rfl (gU rfl ic) ⟨rfl,trivial⟩ ?_
      refine fM rfl rfl rfl (iO 1 false rfl CP rfl rfl) ⟨rfl,trivial⟩ ?_
      refine fM rfl rfl rfl (jy (t:=Ti) rfl cF (hK.sub 1 1 rfl (le_of_ble_eq_true rfl)) rfl rfl) ⟨rfl,trivial⟩ ?_
      refine fM rfl rfl rfl (H7 rfl rfl) ⟨rfl,rfl,trivial⟩ ?_
      refine Dk (by kernel_rfl) dz ?_
      refine cz rfl (kG rfl) ⟨rfl,rfl,trivial⟩ ?_
      refine aH ?_
      refine ao ?_
      show JC _ _ _ _ _
      refine ig rfl (λhb=>?_) (λhb=>?_)
      . replace h:=eQ (ta hb) h
        refine aj ?_
        refine ab ?_
        refine ij rfl rfl ?_
        refine vz rfl rfl ?_
        refine aH ?_
        refine ao ?_
        show JC _ _ _ _ _
        refine aA ?_
        refine bh ?_
        refine bo ?_
        refine bo ?_
        refine bh ?_
        refine bo ?_
        obtain rfl:=hR _ h
        exact aQ () [_] 0 ⟨rfl,trivial⟩ rfl
      . replace h:=c6 (tc hb) h
        refine bg ?_
        refine aL ?_
        refine ao ?_
        show JC _ _ _ _ _
        refine ab ?_
        obtain⟨x,j,h⟩:=aa h
        refine cz rfl (bp rfl j) ⟨rfl,rfl,trivial⟩ ?_
        refine ij rfl rfl ?_
        refine aH ?_
        refine ao ?_
        exact lT ((),x) h (SE.fin [0] ⟨rfl,rfl,rfl,rfl,rfl,trivial⟩ rfl)
    . replace h:=c6 (tc hb) h
      refine fD ?_
      refine bO ?_
      refine bO ?_
      refine c7 ?_
      refine ao ?_
      exact lT ((),()) h (SE.fin [] trivial rfl)
  .
    refine aj ?_
    refine ab ?_
    refine EI rfl ?_
    refine aH ?_
    refine ao ?_
    show JC _ _ _ _ _
    refine aA ?_
    obtain rfl:=Option.some.inj h
    exact aQ () [_] 0 ⟨rfl,trivial⟩ rfl
def cD(k:Nat)(a0:ae)(a1:(List Int))(a2:Int):Nat->((List Int)×Int)->Option (List Int)
 |0,_=>none
 |n+1,y6=>
  if y6.2 < a0.1 then((((ew k k a0 y6.2 a2).bind λc=>
  if Lp c=true then(if a0.2.2.2.1≤(Re c) then((cM (0≤y6.2/\y6.2 < 5)).bind λ_=>
  some (List.set y6.1 (Int.toNat y6.2) (-1:Int))) else(some y6.1)) else(if¬(Lp c=true) then((cM (0≤y6.2/\y6.2 < 5)).bind λ_=>
  (aR a1 y6.2).bind λl=>
  if 0≤l then((cM (0≤y6.2/\y6.2 < 5)).bind λ_=>
  (aR a1 y6.2).bind λj=>
  (ck (j+1)).bind λh=>
  (cM (0≤y6.2/\y6.2 < 5)).bind λ_=>
  some (List.set y6.1 (Int.toNat y6.2) h)) else((dD k a0 a1 y6.2 a2).bind λr=>
  if 0≤r then((cM (0≤y6.2/\y6.2 < 5)).bind λ_=>
  some (List.set y6.1 (Int.toNat y6.2) 0)) else(some y6.1))) else(some y6.1))):Option ((List Int))).bind λx8=>
  (ck (y6.2+1)).bind λe=>
  cD k a0 a1 a2 n (x8,e)) else(some y6.1)
def gW(k:Nat)(a0:ae)(a1:(List Int))(a2:Int):Option (List Int):=
 ((cD k a0 a1 a2 k (a1,0)):Option ((List Int))).bind λx4=>
 some x4
theorem rL{M:Md Tryz.prog}{bm:Nat}{c0 c1 c2 c3 c4 c5:Value}(hK:Kn M bm 0 [c0,c1,c2,c3,c4,c5])(k:Nat)(a0:ae)(a1:(List Int))(a2:Int)(r:(List Int))(h:gW k a0 a1 a2=some r):
 bP M 79 [.rep (.mo (Pv bm) [c0,c1,c2,c3,c4,c5] au) a0,.rep Tr a1,I a2] [] (λ_:Unit=>(bD [.rep Tr r],[])):=by
 unfold gW at h
 replace h:=be h
 refine bP.of 60 Tryz.func79 rfl Tryz.ntmps79 rfl λS w0=>?_
 refine sr ?_
 refine bx λb1=>?_
 refine aS rfl rfl rfl (ba rfl KC Nq) trivial λb2=>?_
 refine nt ?_
 refine sr ?_
 refine fr 1 ?_
 refine lo jv ?_
 refine aS rfl rfl rfl (ba rfl KC Nq) trivial λb3=>?_
 refine aM rfl rfl (aI rfl jv rfl rfl rfl) ⟨rfl,rfl,trivial⟩ ?_
 refine nt ?_
 refine aJ (Z:=Unit) (α:=(List Int)) (λz5 x4=>[(6,Pt b2),(7,Pt b3)]) (λz5 x4=>[.obj b2 80 (.rep Tr [0,0,0,0,0]),.obj b3 80 (.rep Tr x4)]) h (λK h=>?_) (λz5 x4 h=>?_)
 .
  refine sr (mq ?_);refine ja (lD rfl) ?_;refine ja (gU rfl ic) ?_;refine ja (iO 1 false rfl im rfl rfl) ?_;refine ja (jy (t:=Ti) rfl cF (hK.sub 0 1 rfl (le_of_ble_eq_true rfl)) rfl rfl) ?_;refine fq rfl ?_;refine nt (ai (aG (λz7 y6=>[(0,.rep (.mo (Pv bm) [c0,c1,c2,c3,c4,c5] au) a0),(2,I a2),(4,Pt b1),(6,Pt b2),(7,Pt b3),(16,I a0.1),(17,I y6.2)]) (λz7 y6=>[.obj b1 80 (.rep Tr a1),.obj b2 80 (.rep Tr [0,0,0,0,0]),.obj b3 80 (.rep Tr y6.1)]) (cD k a0 a1 a2) k () (a1,0) (λ_=>rfl) h (SE.fin [1,2,0] ⟨rfl,rfl,rfl,rfl,rfl,rfl,rfl,trivial⟩ rfl) (λn z7 y6 h=>?_)));unfold cD at h;refine sr (jb (bA rfl) ?_);refine nt (aj (ci h (λh=>?_) (λh=>?_)))
  .refine sk (aJ (Z:=Unit) (α:=(List Int)) (λz9 x8=>[(0,.rep (.mo (Pv bm) [c0,c1,c2,c3,c4,c5] au) a0),(2,I a2),(4,Pt b1),(6,Pt b2),(7,Pt b3),(16,I a0.1),(17,I y6.2)]) (λz9 x8=>[.obj b1 80 (.rep Tr a1),.obj b2 80 (.rep Tr [0,0,0,0,0]),.obj b3 80 (.rep Tr x8)]) h (λK h=>?_) (λz9 x8 h=>?_))
   .refine ai (sr (mq ?_));refine aq (nt (sr ?_));iterate 3 refine mq ?_
    obtain⟨U,F,h⟩:=aa h;refine jc (aX [.tmp 20,.tmp 21,.tmp 22] rfl rfl Jd rfl (lH hK k k a0 y6.2 a2 U F)) ?_;refine nt (ai (sr (cz rfl (DJ rfl Hg (by decide)) ⟨rfl,trivial⟩ ?_)));refine xr ?_;refine xr ?_;refine nt (cv h (λh=>?_) (λh=>?_))
    .refine sr (aS rfl rfl rfl (ba rfl GE OD) trivial λzz=>?_);refine aM rfl rfl (aI rfl Of trivial rfl rfl) ⟨rfl,rfl,trivial⟩ ?_;refine nt (aj (co ?_));refine da (aF rfl Ec) ?_;refine ea 0 (ax rfl cF ny rfl) ?_;refine dm ?_;refine da (lD rfl) ?_;refine da (gU rfl ic) ?_;refine da (iO 1 false rfl I6 rfl rfl) ?_;refine da (jy (t:=Ti) rfl cF (hK.sub 3 1 rfl (le_of_ble_eq_true rfl)) rfl rfl) ?_;refine df dz ?_;refine jb (kG rfl) ?_;refine nt (ci h (λh=>?_) (λh=>?_))
     .refine ab (mq ?_);obtain⟨pq,j,h⟩:=aa h;refine jb (dY rfl Db cF (am j).1 (am j).2) ?_;refine fr 3 ?_;refine aM rfl rfl (gR (t:=Ti) (off:=0) (i:=y6.2) (N:=5) rfl cF .int rfl rfl rfl rfl (am j).1 (am j).2 rfl) ⟨rfl,rfl,trivial⟩ ?_;refine aH (aL (bn ?_));exact jz ((),List.set y6.1 (Int.toNat y6.2) (-1:Int)) h [2,3,0]
     .refine bg (aL (bn ?_));exact jz ((),y6.1) h [1,2,3]
    .refine sr (cz rfl (LF rfl O2 (by decide)) ⟨rfl,trivial⟩ ?_);refine xr ?_;refine xr ?_;refine nt (cw h (λh=>?_) (λh=>?_))
     .refine sr (aS rfl rfl rfl (ba rfl N5 Td) trivial λqt=>?_);refine aM rfl rfl (aI rfl Q6 trivial rfl rfl) ⟨rfl,rfl,trivial⟩ ?_;refine nt (sr (mq ?_));obtain⟨mw,s,h⟩:=aa h;refine jb (dY rfl Db cF (am s).1 (am s).2) ?_;obtain⟨Y,D,h⟩:=aa h;refine fr 1 ?_;refine ka (nB (t:=Ti) (off:=0) (i:=y6.2) (N:=5) rfl cF (λ_=>rfl) rfl rfl rfl rfl D) ?_;refine jb (kG rfl) ?_;refine nt (ci h (λh=>?_) (λh=>?_))
      .refine ab ?_;iterate 2 refine mq ?_
       obtain⟨u16,l,h⟩:=aa h;refine jb (dY rfl Db cF (am l).1 (am l).2) ?_;obtain⟨X,y,h⟩:=aa h;refine ka (nB (t:=Ti) (off:=0) (i:=y6.2) (N:=5) rfl cF (λ_=>rfl) rfl rfl rfl rfl y) ?_;obtain⟨O,x,h⟩:=aa h;refine jb (bp rfl x) ?_;obtain⟨mc,e,h⟩:=aa h;refine jb (dY rfl Db cF (am e).1 (am e).2) ?_;refine fr 3 ?_;refine aM rfl rfl (gR (t:=Ti) (off:=0) (i:=y6.2) (N:=5) rfl cF .int rfl rfl rfl rfl (am e).1 (am e).2 rfl) ⟨rfl,rfl,trivial⟩ ?_;refine aH (aL (bn ?_));exact jz ((),List.set y6.1 (Int.toNat y6.2) O) h [1,3,0]
      .refine sr (mq ?_);refine lo jv ?_;iterate 2 refine mq ?_
       obtain⟨Q,E,h⟩:=aa h;refine cz rfl (aX [.tmp 50,.tmp 51,.tmp 52,.tmp 53] rfl rfl Oq rfl (j7 hK k a0 a1 y6.2 a2 Q E)) ⟨rfl,rfl,rfl,rfl,trivial⟩ ?_;refine jb (kG rfl) ?_;refine nt (ci h (λh=>?_) (λh=>?_))
       .refine ab (mq ?_);obtain⟨gw,c,h⟩:=aa h;refine jb (dY rfl Db cF (am c).1 (am c).2) ?_;refine fr 3 ?_;refine aM rfl rfl (gR (t:=Ti) (off:=0) (i:=y6.2) (N:=5) rfl cF .int rfl rfl rfl rfl (am c).1 (am c).2 rfl) ⟨rfl,rfl,trivial⟩ ?_;refine aH (aL (bn ?_));exact jz ((),List.set y6.1 (Int.toNat y6.2) 0) h [1,3,0]
       .refine bg (aL (bn ?_));exact jz ((),y6.1) h [0,2,3]
     .refine bg (aL (bn ?_));exact jz ((),y6.1) h [0,1,2]
   .refine ab ?_;obtain⟨J,u,h⟩:=aa h;refine jb (bp rfl u) ?_;refine mq (nl ?_);exact jz ((),(x8,J)) h [0,1,2]
  .refine xa ?_;exact jz ((),y6.1) h [1,2]
 .
  refine sr (fr 1 ?_);refine lo jv ?_;refine fr 1 ?_;refine aM rfl rfl (aI rfl jv rfl rfl rfl) ⟨rfl,rfl,trivial⟩ ?_;refine nt (aA ?_);obtain rfl:=Option.some.inj h;exact aQ () [.rep Tr x4] 0 ⟨⟨_,_,_,_,_,rfl,(.head _),jv,(t6),rfl⟩,trivial⟩ rfl
def dw{σ:Type}(k:Nat)(a0:Int)(a3:Int)(self:Int->Int->σ->Option (Bool×σ)):Nat->(Int×σ)->Option (Except (Bool×σ) (σ))
 |0,_=>none
 |n+1,y5=>
  if y5.1 < a3 then((eZ k a0 y5.1).bind λr7=>
  (ck (y5.1+1)).bind λx8=>
  (self r7 x8 y5.2).bind λr9=>
  if¬(r9.1=true) then(some (.error (false,r9.2))) else((ck (y5.1+1)).bind λc=>
  dw k a0 a3 self n (c,r9.2))) else(some (.ok y5.2))
def dB{σ:Type}(k:Nat)(Y:σ->Int->Option (σ×Bool))(a3:Int):Nat->Int->Int->σ->Option (Bool×σ)
 |0,_,_,_=>none
 |m0+1,a0,a1,s0=>
  (Y s0 a0).bind λr1=>
  if¬(r1.2=true) then(some (false,r1.1)) else(bE (α:=σ) (dw k a0 a3 (dB k Y a3 m0) k (a1,r1.1)) (some) λx3=>
  some (true,x3))
theorem sL{M:Md Tryz.prog}{σ Z:Type}(E:Z->σ->List D)(l:Nat)(Y:σ->Int->Option (σ×Bool))(k:Nat)(u:Nat)(a3:Int)(j:Nat)(c:Nat)(hY:∀z s p r,Y s p=some r->YT M l [.eq (.int .u8 p)] (E z s) (λz':Z=>(.eq (.bool r.2),E z' r.1))):
 ∀(n:Nat) (a0:Int) (a1:Int) (z0:Z) (s0:σ) (r:Bool×σ),dB k Y a3 n a0 a1 s0=some r->bP M 107 [.eq (.int .u8 a0),I a1,Pt u,Pt j,Pt c] ([.obj u 137 (.eq (.func (.yield l) #[] #[])),.obj j 3 (I a3),.obj c 136 (.eq (.func (.func 107) #[] #[(Pv u),(Pv j),(Pv c)]))]++E z0 s0) (λz:Z=>(bD [.eq (.bool r.1)],[.obj u 137 (.eq (.func (.yield l) #[] #[])),.obj j 3 (I a3),.obj c 136 (.eq (.func (.func 107) #[] #[(Pv u),(Pv j),(Pv c)]))]++E z r.2)):=by
 intro n
 induction n with
 |zero=>intro a0 a1 z0 s0 r h;cases h
 |succ m0 ih=>
  intro a0 a1 z0 s0 r h;rw [dB] at h;replace h:=be h;refine bP.of 27 Tryz.func107 rfl Tryz.ntmps107 rfl λS w0=>?_;refine sr (cq (nt (aj (sr ?_))));refine lo Q7 ?_;refine mq ?_;obtain⟨r1,U,h⟩:=aa h;refine fr 2 ?_;refine fr 2 ?_;refine fr 2 ?_;refine vx [.obj u 137 (.eq (.func (.yield l) #[] #[])),.obj j 3 (I a3),.obj c 136 (.eq (.func (.func 107) #[] #[(Pv u),(Pv j),(Pv c)]))] rfl rfl rfl (DI [.tmp 10] rfl rfl rfl (hY z0 s0 a0 r1 U)) ⟨rfl,rfl,trivial⟩ λz2=>?_;refine ja (ii rfl) ?_;refine nt (cw h (λh=>?_) (λh=>?_))
  .refine sr (cq (nt (rx ?_)));cases h;exact jS z2 [_] ⟨rfl,trivial⟩ rfl
  .refine sk (dk (Z:=Z) (α:=σ) (λz4 x3=>[]) (λz4 x3=>[.obj u 137 (.eq (.func (.yield l) #[] #[])),.obj j 3 (I a3),.obj c 136 (.eq (.func (.func 107) #[] #[(Pv u),(Pv j),(Pv c)]))]++E z4 x3) (λe=>e=r) h (λe h=>Option.some.inj h) (λK hR h=>?_) (λz4 x3 h=>?_))
   .refine sr (mq ?_);refine aq (nt (ai ?_));refine aG (Z:=Z) (α:=Int×σ) (λz6 y5=>[(0,.eq (.int .u8 a0)),(3,Pt j),(4,Pt c),(8,I y5.1)]) (λz6 y5=>[.obj j 3 (I a3),.obj c 136 (.eq (.func (.func 107) #[] #[(Pv u),(Pv j),(Pv c)])),.obj u 137 (.eq (.func (.yield l) #[] #[]))]++E z6 y5.2) (dw k a0 a3 (dB k Y a3 m0)) k z2 (a1,r1.1) (λ_=>rfl) h (gf [.obj u 137 (.eq (.func (.yield l) #[] #[])),.obj j 3 (I a3),.obj c 136 (.eq (.func (.func 107) #[] #[(Pv u),(Pv j),(Pv c)]))] (E z2 r1.1) [1,2,0] ⟨rfl,rfl,rfl,rfl,trivial⟩ rfl) (λn z6 y5 h=>?_);unfold dw at h;refine aj (sr (mq ?_));refine lo cF ?_;refine jb (bA rfl) ?_;refine nt (ci h (λh=>?_) (λh=>?_))
    .refine sk (aj (ai (aj (co ?_))));refine ea 1 (ax rfl Hl ny rfl) ?_;refine dm ?_;refine dm ?_;obtain⟨r7,Q,h⟩:=aa h;refine db (ay [.tmp 20,.tmp 21] rfl rfl MS rfl (iF k a0 y5.1 r7 Q)) ?_;refine dm ?_;obtain⟨x8,J,h⟩:=aa h;refine db (bp rfl J) ?_;refine df dz ?_;obtain⟨r9,O,h⟩:=aa h;refine fr 1 ?_;refine fr 1 ?_;refine fr 2 ?_;refine vy rfl rfl rfl (nc (fs:=[]) (cs:=[(Pv u),(Pv j),(Pv c)]) (ags:=[.eq (.int .u8 r7),I x8]) [.tmp 22,.tmp 24] rfl rfl Ou rfl (ih r7 x8 z6 y5.2 r9 O)) ⟨rfl,rfl,rfl,trivial⟩ λx=>?_;refine ja (ii rfl) ?_;refine nt (cw h (λh=>?_) (λh=>?_))
     .refine sr (cq (nt (aA (br (bh (bo ?_))))));obtain rfl:=hR _ h;exact jS x [_] ⟨rfl,trivial⟩ rfl
     .refine bg (aL (tn (ab (mq ?_))));obtain⟨F,y,h⟩:=aa h;refine jb (bp rfl y) ?_;refine aq (nl ?_);exact lT (x,(F,r9.2)) h (gf [.obj u 137 (.eq (.func (.yield l) #[] #[])),.obj j 3 (I a3),.obj c 136 (.eq (.func (.func 107) #[] #[(Pv u),(Pv j),(Pv c)]))] (E x r9.2) [1,2,0] ⟨rfl,rfl,rfl,rfl,trivial⟩ rfl)
    .refine xa ?_;exact lT (z6,y5.2) h (gf [.obj j 3 (I a3),.obj c 136 (.eq (.func (.func 107) #[] #[(Pv u),(Pv j),(Pv c)])),.obj u 137 (.eq (.func (.yield l) #[] #[]))] (E z6 y5.2) [2,0,1] trivial rfl)
   .refine sr (cq (nt (aA ?_)));cases h;exact jS z4 [_] ⟨rfl,trivial⟩ rfl
def j8{σ:Type}(k:Nat)(Y:σ->Int->Option (σ×Bool))(a1:Int)(s0:σ):Option (σ):=
 (dB k Y a1 k 0 0 s0).bind λr3=>
 some r3.2
theorem oW{M:Md Tryz.prog}{σ Z:Type}(E:Z->σ->List D)(l:Nat)(Y:σ->Int->Option (σ×Bool))(k:Nat)(a1:Int)(c:Nat)(hY:∀z s p r,Y s p=some r->YT M l [.eq (.int .u8 p)] (E z s) (λz':Z=>(.eq (.bool r.2),E z' r.1))):
 ∀(z0:Z) (s0:σ) (r:σ),j8 k Y a1 s0=some r->bP M 106 [.eq (.func (.yield l) #[] #[]),Pt c] ([.obj c 3 (I a1)]++E z0 s0) (λz:Z=>(bD [],[.obj c 3 (I a1)]++E z r)):=by
 intro z0 s0 r h
 unfold j8 at h
 replace h:=be h
 refine bP.of 7 Tryz.func106 rfl Tryz.ntmps106 rfl λS w0=>?_
 refine sr ?_
 refine bx λb1=>?_
 refine nt ?_
 refine sr ?_
 refine aS rfl rfl rfl (ba rfl QW Tj) trivial λb2=>?_
 refine nt ?_
 refine sr ?_
 refine jc (oN [] [.tmp 2,.tmp 1,.tmp 3] [] [(Pv b1),(Pv c),(Pv b2)] rfl rfl rfl) ?_
 refine aM rfl rfl (aI rfl Hl rfl rfl rfl) ⟨rfl,rfl,trivial⟩ ?_
 refine nt ?_
 refine ab ?_
 refine lo Hl ?_
 obtain⟨r3,e,h⟩:=aa h
 have j:=sL E l Y k b1 a1 c b2 hY k 0 0 z0 s0 r3 e
 refine fr 2 ?_
 refine fr 2 ?_
 refine vy rfl rfl rfl (nc (fs:=[]) (cs:=[(Pv b1),(Pv c),(Pv b2)]) (ags:=[.eq (.int .u8 0),I 0]) [.const (.int .u8 (0)),.const (.int .i64 (0))] rfl rfl Ou rfl j) ⟨rfl,rfl,rfl,trivial⟩ λz4=>?_
 refine aH ?_
 refine ju ?_
 refine bM (gf (Γ':=[]) [.obj b1 137 (.eq (.func (.yield l) #[] #[])),.obj c 3 (I a1),.obj b2 136 (.eq (.func (.func 107) #[] #[(Pv b1),(Pv c),(Pv b2)]))] (E z4 r3.2) [1] trivial rfl) ?_
 cases h
 exact jS z4 [] trivial rfl
theorem rN(a0:Int):dy Tryz.prog 73 [I a0] [] (λz:Nat=>(bD [.eq (.func (.func 106) #[] #[(Pv z)])],[.obj z 3 (I a0)])):=by
 refine dy.of 4 Tryz.func73 rfl Tryz.ntmps73 rfl λS w0=>?_;refine sr (bx λz=>?_);refine cq (nt (sr ?_));refine ja (oN [] [.tmp 1] [] [(Pv z)] rfl rfl rfl) ?_;refine aq (nt (aA ?_));exact aQ z [_] 1 ⟨rfl,trivial⟩ rfl
def iG(k:Nat)(a0:Int):Nat->((List Int)×Int)->Option (List Int)
 |0,_=>none
 |n+1,y3=>
  if y3.2 < 5 then((((fa k a0 y3.2).bind λr7=>
  if r7=true then((cM (bQ (length y3.1+length [y3.2]))).bind λ_=>
  some (y3.1++[y3.2])) else(some y3.1)):Option ((List Int))).bind λx5=>
  (ck (y3.2+1)).bind λc=>
  iG k a0 n (x5,c)) else(some y3.1)
def ji(k:Nat)(a0:Int):Option (List Int):=
 ((iG k a0 k (([]:(List Int)),0)):Option ((List Int))).bind λx1=>
 some x1
theorem kC(k:Nat)(a0:Int)(r:(List Int))(h:ji k a0=some r):
 dy Tryz.prog 39 [.eq (.int .u8 a0)] [] (λ_:Unit=>(bD [.rep Tl r],[])):=by
 unfold ji at h
 replace h:=be h
 refine dy.of 17 Tryz.func39 rfl Tryz.ntmps39 rfl λS w0=>?_
 refine sr ?_
 refine cq ?_
 refine nt ?_
 refine sr ?_
 refine cq ?_
 refine nt ?_
 refine aJ (Z:=Value) (α:=(List Int)) (λz2 x1=>[(3,.eq z2)]) (λz2 x1=>[.sl z2 3 Ti x1]) h (λK h=>?_) (λz2 x1 h=>?_)
 .
  refine sr (fq rfl ?_);refine nt (ai (ik (SE.nil 3 Ti) ?_));refine aG (λz4 y3=>[(0,.eq (.int .u8 a0)),(3,.eq z4),(5,I y3.2)]) (λz4 y3=>[.sl z4 3 Ti y3.1]) (iG k a0) k (.slice none 0 0) (([]:(List Int)),0) (λ_=>rfl) h (SE.fin [0] ⟨rfl,rfl,rfl,trivial⟩ rfl) (λn z4 y3 h=>?_);unfold iG at h;refine sr (jb (bA rfl) ?_);refine nt (aj (ci h (λh=>?_) (λh=>?_)))
  .refine sk (aJ (Z:=Value) (α:=(List Int)) (λz6 x5=>[(0,.eq (.int .u8 a0)),(3,.eq z6),(5,I y3.2)]) (λz6 x5=>[.sl z6 3 Ti x5]) h (λK h=>?_) (λz6 x5 h=>?_))
   .refine ai (sr (mq ?_));refine aq (nt (sr ?_));iterate 2 refine mq ?_
    obtain⟨r7,l,h⟩:=aa h;refine jb (ay [.tmp 8,.tmp 9] rfl rfl Jc rfl (gV k a0 y3.2 r7 l)) ?_;refine nt (cv h (λh=>?_) (λh=>?_))
    .refine ab ?_;iterate 2 refine mq ?_
     refine ja (bj (t:=Ti) [(.tmp 12,_)] [y3.2] rfl rfl dL (.cons rfl .int .nil) rfl rfl) ?_;obtain⟨u8,j,h⟩:=aa h;refine dS rfl rfl rfl (cg rfl rfl dL (am j)) ⟨rfl,rfl,trivial⟩ λv9=>?_;refine aq (aH (bn ?_));exact jz (v9,y3.1++[y3.2]) h [0]
    .refine bg (bn ?_);exact jz (z4,y3.1) h [0]
   .refine ab ?_;obtain⟨e,c,h⟩:=aa h;refine jb (bp rfl c) ?_;refine mq (nl ?_);exact jz (z6,(x5,e)) h [0]
  .refine xa ?_;exact jz (z4,y3.1) h [0]
 .
  refine sr (mq ?_);refine aq (nt (aA ?_));refine bM (ip [2,3,16] ⟨rfl,rfl,rfl,trivial⟩) ?_;cases h;exact ra
def dA(k:Nat)(a0:List Int):Option (List Int):=
 (cM (bQ (length a0))).bind λ_=>some a0
theorem mZ(k:Nat)(a0:List Int)(r:List Int)(h:dA k a0=some r):
 dy Tryz.prog 41 [.rep Tl a0] [] (λz:Value=>(bD [.eq z],[.sl z 3 Ti r])):=by
 unfold dA at h
 replace h:=be h
 refine dy.of 8 Tryz.func41 rfl Tryz.ntmps41 rfl λS w0=>?_
 obtain⟨u1,c,h⟩:=aa h
 cases h
 refine sr ?_
 refine cq ?_
 refine nt ?_
 refine aj ?_
 refine sr ?_
 refine mq ?_
 refine aN (Δ:=[]) (F:=_) (λ_ _ _=>ah rfl _) rfl rfl (LD rfl g7) ⟨rfl,rfl,trivial⟩ λb=>?_
 refine nt ?_
 refine ig rfl (λhb=>?_) (λhb=>?_)
 .
  refine sr (cq (nt (rx ?_)));obtain rfl:=b.2 hb;refine bM (SE.nil 3 Ti) ?_;exact aQ (.slice none 0 0) [.eq (.slice none 0 0)] 1 ⟨rfl,trivial⟩ rfl
 .
  refine sk (sr (aS rfl rfl rfl (iN (t:=Ti) [] [] rfl rfl dL .nil rfl rfl) trivial λv1=>?_));refine mq ?_;refine dS rfl rfl rfl (cg rfl rfl dL (by simpa using am c)) ⟨rfl,rfl,trivial⟩ λv2=>?_;refine aq (nt (aA ?_));exact aQ v2 [.eq v2] 1 ⟨rfl,trivial⟩ rfl
def fj(k:Nat)(a0:ae)(a1:(List (List Int))):Nat->Int->Option (Except Bool Unit)
 |0,_=>none
 |n+1,y5=>
  if y5 < (a1.length:Int) then((aR a1 y5).bind λx7=>
  if¬((x7.length:Int)=a0.1) then(some (.error false)) else((ck (y5+1)).bind λx8=>
  fj k a0 a1 n x8)) else(some (.ok ()))
def nj(k:Nat)(a0:ae)(a1:(List (List Int))):Option Bool:=
 (ck ((a0.2.2.2.2.1.length:Int)+1)).bind λx2=>
 if¬((a1.length:Int)=x2) then(some false) else(bE (α:=Unit) (fj k a0 a1 k 0) (some) λ_=>
 some true)
theorem yi(k:Nat)(a0:ae)(a1:(List (List Int)))(r:Bool)(h:nj k a0 a1=some r):
 dy Tryz.prog 13 [.rep au a0,.rep (.slice Tl) a1] [] (λ_:Unit=>(bD [.eq (.bool r)],[])):=by
 unfold nj at h
 replace h:=be h
 refine dy.of 27 Tryz.func13 rfl Tryz.ntmps13 rfl λS w0=>?_
 refine sr ?_
 refine bx λb1=>?_
 refine cq ?_
 refine nt ?_
 refine aj ?_
 refine sr ?_
 refine mq ?_
 refine ol oq ?_
 refine fl eO ?_
 refine lo lZ ?_
 refine ol Bn ?_
 obtain⟨x2,l,h⟩:=aa h
 refine jb (bp rfl l) ?_
 refine jb (fB rfl) ?_
 refine nt ?_
 refine cn h (λh=>?_) (λh=>?_)
 .
  refine sr (cq (nt (rx ?_)));cases h;exact ra
 .
  refine sk (dk (Z:=Unit) (α:=Unit) (λz4 x3=>[]) (λz4 x3=>[]) (λe=>e=r) h (λe h=>Option.some.inj h) (λK hR h=>?_) (λz4 x3 h=>?_))
  .refine sr (cq (nt (ai ?_)));refine aG (λz6 y5=>[(1,.rep (.slice Tl) a1),(2,Pt b1),(5,I y5)]) (λz6 y5=>[.obj b1 26 (.rep au a0)]) (fj k a0 a1) k () 0 (λ_=>rfl) h (SE.fin [0] ⟨rfl,rfl,rfl,trivial⟩ rfl) (λn z6 y5 h=>?_);unfold fj at h;refine aj (sr ?_);iterate 2 refine mq ?_
   refine ol oq ?_;refine jb (bA rfl) ?_;refine nt (ci h (λh=>?_) (λh=>?_))
   .refine sk (aj (ai (aj (co ?_))));refine dm ?_;refine dm ?_;obtain⟨x7,j,h⟩:=aa h;refine db (aW (t:=Tl) rfl oq eo j) ?_;refine da (av (t:=Tl) rfl eo rfl) ?_;refine da (rG rfl rfl g7) ?_;refine da (aF rfl im) ?_;refine ea 0 (ax rfl cF ny rfl) ?_;refine df dz ?_;refine jb (fB rfl) ?_;refine nt (cn h (λh=>?_) (λh=>?_))
    .refine sr (cq (nt (aA (br (bh (bo ?_))))));obtain rfl:=hR _ h;exact ra
    .refine bg (aL (tn (ab (mq ?_))));obtain⟨x8,c,h⟩:=aa h;refine jb (bp rfl c) ?_;refine aq (nl ?_);exact jz ((),x8) h [0]
   .refine xa ?_;exact jz ((),()) h []
  .refine sr (cq (nt (aA ?_)));cases h;exact ra
def i7(k:Nat)(a0:(List Int)):Nat->(Int×Int)->Option Int
 |0,_=>none
 |n+1,y4=>
  if y4.2 < (a0.length:Int) then((aR a0 y4.2).bind λx6=>
  (ck (y4.2+1)).bind λx7=>
  i7 k a0 n (IQ y4.1 x6,x7)) else(some y4.1)
def mg(k:Nat)(a0:(List Int)):Option Int:=
 if(a0.length:Int) < 1 then(none) else((aR a0 0).bind λx1=>
 ((i7 k a0 k (x1,1)):Option (Int)).bind λx2=>
 some x2)
theorem oD(k:Nat)(a0:(List Int))(r:Int)(h:mg k a0=some r):
 dy Tryz.prog 45 [.rep Tl a0] [] (λ_:Unit=>(bD [I r],[])):=by
 unfold mg at h
 replace h:=be h
 refine dy.of 25 Tryz.func45 rfl Tryz.ntmps45 rfl λS w0=>?_
 refine sr ?_
 refine cq ?_
 refine nt ?_
 refine aj ?_
 refine sr ?_
 refine mq ?_
 refine ol g7 ?_
 refine jb (bA rfl) ?_
 refine nt ?_
 refine ci h (λh=>?_) (λh=>?_)
 .
  cases h
 .
  refine sk (sr (mq ?_));obtain⟨x1,j,h⟩:=aa h;refine jb (aW (t:=Ti) rfl g7 cF j) ?_;refine ja (av (t:=Ti) rfl cF rfl) ?_;refine aq (nt ?_);refine aJ (Z:=Unit) (α:=Int) (λz3 x2=>[(3,I x2)]) (λz3 x2=>[]) h (λK h=>?_) (λz3 x2 h=>?_)
  .refine sr (cq (nt (ai ?_)));refine aG (λz5 y4=>[(0,.rep Tl a0),(3,I y4.1),(4,I y4.2)]) (λz5 y4=>[]) (i7 k a0) k () (x1,1) (λ_=>rfl) h (SE.fin [] ⟨rfl,rfl,rfl,trivial⟩ rfl) (λn z5 y4 h=>?_);unfold i7 at h;refine aj (sr ?_);iterate 2 refine mq ?_
   refine ol g7 ?_;refine jb (bA rfl) ?_;refine nt (ci h (λh=>?_) (λh=>?_))
   .refine sk (aj (ai (ab ?_)));iterate 3 refine mq ?_
    obtain⟨x6,e,h⟩:=aa h;refine jb (aW (t:=Ti) rfl g7 cF e) ?_;refine ja (av (t:=Ti) rfl cF rfl) ?_;refine jb (Rq rfl rfl) ?_;refine aq (aH (aL (tn (ab ?_))));refine mq ?_;obtain⟨x7,c,h⟩:=aa h;refine jb (bp rfl c) ?_;refine aq (nl ?_);exact jz ((),(IQ y4.1 x6,x7)) h []
   .refine xa ?_;exact jz ((),y4.1) h []
  .refine sr (mq ?_);refine aq (nt (aA ?_));cases h;exact ra
def i8(k:Nat)(a0:(List Int)):Nat->(Int×Int)->Option Int
 |0,_=>none
 |n+1,y4=>
  if y4.2 < (a0.length:Int) then((aR a0 y4.2).bind λx6=>
  (ck (y4.2+1)).bind λx7=>
  i8 k a0 n (sY y4.1 x6,x7)) else(some y4.1)
def oG(k:Nat)(a0:(List Int)):Option Int:=
 if(a0.length:Int) < 1 then(none) else((aR a0 0).bind λx1=>
 ((i8 k a0 k (x1,1)):Option (Int)).bind λx2=>
 some x2)
theorem uk(k:Nat)(a0:(List Int))(r:Int)(h:oG k a0=some r):
 dy Tryz.prog 46 [.rep Tl a0] [] (λ_:Unit=>(bD [I r],[])):=by
 unfold oG at h
 replace h:=be h
 refine dy.of 25 Tryz.func46 rfl Tryz.ntmps46 rfl λS w0=>?_
 refine sr ?_
 refine cq ?_
 refine nt ?_
 refine aj ?_
 refine sr ?_
 refine mq ?_
 refine ol g7 ?_
 refine jb (bA rfl) ?_
 refine nt ?_
 refine ci h (λh=>?_) (λh=>?_)
 .
  cases h
 .
  refine sk (sr (mq ?_));obtain⟨x1,j,h⟩:=aa h;refine jb (aW (t:=Ti) rfl g7 cF j) ?_;refine ja (av (t:=Ti) rfl cF rfl) ?_;refine aq (nt ?_);refine aJ (Z:=Unit) (α:=Int) (λz3 x2=>[(3,I x2)]) (λz3 x2=>[]) h (λK h=>?_) (λz3 x2 h=>?_)
  .refine sr (cq (nt (ai ?_)));refine aG (λz5 y4=>[(0,.rep Tl a0),(3,I y4.1),(4,I y4.2)]) (λz5 y4=>[]) (i8 k a0) k () (x1,1) (λ_=>rfl) h (SE.fin [] ⟨rfl,rfl,rfl,trivial⟩ rfl) (λn z5 y4 h=>?_);unfold i8 at h;refine aj (sr ?_);iterate 2 refine mq ?_
   refine ol g7 ?_;refine jb (bA rfl) ?_;refine nt (ci h (λh=>?_) (λh=>?_))
   .refine sk (aj (ai (ab ?_)));iterate 3 refine mq ?_
    obtain⟨x6,e,h⟩:=aa h;refine jb (aW (t:=Ti) rfl g7 cF e) ?_;refine ja (av (t:=Ti) rfl cF rfl) ?_;refine jb (H7 rfl rfl) ?_;refine aq (aH (aL (tn (ab ?_))));refine mq ?_;obtain⟨x7,c,h⟩:=aa h;refine jb (bp rfl c) ?_;refine aq (nl ?_);exact jz ((),(sY y4.1 x6,x7)) h []
   .refine xa ?_;exact jz ((),y4.1) h []
  .refine sr (mq ?_);refine aq (nt (aA ?_));cases h;exact ra
def dJ(k:Nat)(a0:(List Int))(a1:(List Int)):Nat->Int->Option (Except Bool Unit)
 |0,_=>none
 |n+1,y3=>
  if y3 < (a0.length:Int) then((aR a0 y3).bind λx5=>
  (aR a1 y3).bind λx6=>
  if¬(x5=x6) then(some (.error false)) else((ck (y3+1)).bind λx7=>
  dJ k a0 a1 n x7)) else(some (.ok ()))
def eC(k:Nat)(a0:(List Int))(a1:(List Int)):Option Bool:=
 if¬((a0.length:Int)=(a1.length:Int)) then(some false) else(bE (α:=Unit) (dJ k a0 a1 k 0) (some) λ_=>
 some true)
theorem iK(k:Nat)(a0:(List Int))(a1:(List Int))(r:Bool)(h:eC k a0 a1=some r):
 dy Tryz.prog 32 [.rep Tl a0,.rep Tl a1] [] (λ_:Unit=>(bD [.eq (.bool r)],[])):=by
 unfold eC at h
 replace h:=be h
 refine dy.of 26 Tryz.func32 rfl Tryz.ntmps32 rfl λS w0=>?_
 refine sr ?_
 refine cq ?_
 refine nt ?_
 refine aj ?_
 refine sr ?_
 refine mq ?_
 refine ol g7 ?_
 refine mq ?_
 refine ol g7 ?_
 refine jb (fB rfl) ?_
 refine nt ?_
 refine cn h (λh=>?_) (λh=>?_)
 .
  refine sr (cq (nt (rx ?_)));cases h;exact ra
 .
  refine sk (dk (Z:=Unit) (α:=Unit) (λz2 x1=>[]) (λz2 x1=>[]) (λe=>e=r) h (λe h=>Option.some.inj h) (λK hR h=>?_) (λz2 x1 h=>?_))
  .refine sr (cq (nt (ai ?_)));refine aG (λz4 y3=>[(0,.rep Tl a0),(1,.rep Tl a1),(5,I y3)]) (λz4 y3=>[]) (dJ k a0 a1) k () 0 (λ_=>rfl) h (SE.fin [] ⟨rfl,rfl,rfl,trivial⟩ rfl) (λn z4 y3 h=>?_);unfold dJ at h;refine aj (sr ?_);iterate 2 refine mq ?_
   refine ol g7 ?_;refine jb (bA rfl) ?_;refine nt (ci h (λh=>?_) (λh=>?_))
   .refine sk (aj (ai (aj (co ?_))));refine dm ?_;refine dm ?_;obtain⟨x5,l,h⟩:=aa h;refine db (aW (t:=Ti) rfl g7 cF l) ?_;refine da (av (t:=Ti) rfl cF rfl) ?_;refine dm ?_;refine dm ?_;obtain⟨x6,j,h⟩:=aa h;refine db (aW (t:=Ti) rfl g7 cF j) ?_;refine da (av (t:=Ti) rfl cF rfl) ?_;refine df dz ?_;refine jb (fB rfl) ?_;refine nt (cn h (λh=>?_) (λh=>?_))
    .refine sr (cq (nt (aA (br (bh (bo ?_))))));obtain rfl:=hR _ h;exact ra
    .refine bg (aL (tn (ab (mq ?_))));obtain⟨x7,c,h⟩:=aa h;refine jb (bp rfl c) ?_;refine aq (nl ?_);exact jz ((),x7) h []
   .refine xa ?_;exact jz ((),()) h []
  .refine sr (cq (nt (aA ?_)));cases h;exact ra
def lJ(k:Nat)(a0:Int)(a1:Int)(a2:Bool):Option bH:=
 some (a0,a1,a2)
theorem mL(k:Nat)(a0:Int)(a1:Int)(a2:Bool)(r:bH)(h:lJ k a0 a1 a2=some r):
 dy Tryz.prog 27 [I a0,I a1,.eq (.bool a2)] [] (λ_:Unit=>(bD [.rep bf r],[])):=by
 unfold lJ at h
 replace h:=be h
 refine dy.of 11 Tryz.func27 rfl Tryz.ntmps27 rfl λS w0=>?_
 refine sr ?_
 refine aS rfl rfl rfl (ba rfl Bo Jx) trivial λb1=>?_
 refine nt ?_
 refine sr ?_
 iterate 3 refine mq ?_
 refine jc (eB [(0,.tmp 7,_),(1,.tmp 8,_),(2,.tmp 9,_)] rfl Rf Bo OB (jV ⟨rfl,rfl,rfl,trivial⟩) rfl) ?_
 refine aM rfl rfl (aI rfl ry trivial rfl rfl) ⟨rfl,rfl,trivial⟩ ?_
 refine nt ?_
 refine aA ?_
 refine bM (ge (a:=.agg (.pair (I a0) (.pair (I a1) (.eq (.bool a2))))) (a':=.rep bf (a0,a1,a2)) (iq (.agg (.pair .int (.pair .int .bool))))) ?_
 cases h
 exact aQ () [.rep bf (a0,a1,a2)] 0 ⟨⟨_,_,_,_,_,rfl,(.head _),ry,(t6),rfl⟩,trivial⟩ rfl
def iT(k:Nat)(a0:(List bH)):Option ae:=
 (lJ k 1 2 true).bind λr2=>
 (lJ k 2 1 false).bind λr3=>
 (lJ k 3 3 false).bind λr4=>
 (cM (bQ (length [r2,r3,r4]+length a0))).bind λ_=>
 some (4,1,1,2,[[[0,1,2],[3]],[[0,1],[2,3]],[[1,2,3]],[[1,3],[2]]],[r2,r3,r4]++a0)
theorem hP(k:Nat)(a0:(List bH))(r:ae)(h:iT k a0=some r):
 dy Tryz.prog 47 [Rs bf a0] [] (λ_:Unit=>(bD [.rep au r],[])):=by
 unfold iT at h
 replace h:=be h
 refine dy.of 24 Tryz.func47 rfl Tryz.ntmps47 rfl λS w0=>?_
 refine sr ?_
 refine aS rfl rfl rfl (ba rfl yU F5) trivial λb1=>?_
 refine nt ?_
 refine sr ?_
 obtain⟨r2,l,h⟩:=aa h
 have u:=mL k 1 2 true r2 l
 refine jc (ay [.const (.int .i64 (1)),.const (.int .i64 (2)),.const (.bool true)] rfl rfl P9 rfl u) ?_
 obtain⟨r3,j,h⟩:=aa h
 have s:=mL k 2 1 false r3 j
 refine jc (ay [.const (.int .i64 (2)),.const (.int .i64 (1)),.const (.bool false)] rfl rfl P9 rfl s) ?_
 obtain⟨r4,e,h⟩:=aa h
 have n:=mL k 3 3 false r4 e
 refine jc (ay [.const (.int .i64 (3)),.const (.int .i64 (3)),.const (.bool false)] rfl rfl P9 rfl n) ?_
 refine aS rfl rfl rfl (iN (t:=bf) [(.tmp 4,_),(.tmp 5,_),(.tmp 6,_)] [r2,r3,r4] rfl rfl Le (.cons rfl .rep (.cons rfl .rep (.cons rfl .rep .nil))) rfl rfl) ⟨rfl,rfl,rfl,trivial⟩ λv5=>?_
 refine aq ?_
 refine nt ?_
 refine sr ?_
 refine jc (bj (t:=Ti) [(.const (.int .i64 (0)),_),(.const (.int .i64 (1)),_),(.const (.int .i64 (2)),_)] [0,1,2] rfl rfl dL (.cons rfl .int (.cons rfl .int (.cons rfl .int .nil))) rfl rfl) ?_
 refine ja (bj (t:=Ti) [(.const (.int .i64 (3)),_)] [3] rfl rfl dL (.cons rfl .int .nil) rfl rfl) ?_
 refine jb (bj (t:=Tl) [(.tmp 8,_),(.tmp 9,_)] [[0,1,2],[3]] rfl rfl l7 (.cons rfl .rep (.cons rfl .rep .nil)) rfl rfl) ?_
 refine jb (bj (t:=Ti) [(.const (.int .i64 (0)),_),(.const (.int .i64 (1)),_)] [0,1] rfl rfl dL (.cons rfl .int (.cons rfl .int .nil)) rfl rfl) ?_
 refine jb (bj (t:=Ti) [(.const (.int .i64 (2)),_),(.const (.int .i64 (3)),_)] [2,3] rfl rfl dL (.cons rfl .int (.cons rfl .int .nil)) rfl rfl) ?_
 refine jb (bj (t:=Tl) [(.tmp 11,_),(.tmp 12,_)] [[0,1],[2,3]] rfl rfl l7 (.cons rfl .rep (.cons rfl .rep .nil)) rfl rfl) ?_
 refine jc (bj (t:=Ti) [(.const (.int .i64 (1)),_),(.const (.int .i64 (2)),_),(.const (.int .i64 (3)),_)] [1,2,3] rfl rfl dL (.cons rfl .int (.cons rfl .int (.cons rfl .int .nil))) rfl rfl) ?_
 refine ja (bj (t:=Tl) [(.tmp 14,_)] [[1,2,3]] rfl rfl l7 (.cons rfl .rep .nil) rfl rfl) ?_
 refine jb (bj (t:=Ti) [(.const (.int .i64 (1)),_),(.const (.int .i64 (3)),_)] [1,3] rfl rfl dL (.cons rfl .int (.cons rfl .int .nil)) rfl rfl) ?_
 refine ja (bj (t:=Ti) [(.const (.int .i64 (2)),_)] [2] rfl rfl dL (.cons rfl .int .nil) rfl rfl) ?_
 refine jb (bj (t:=Tl) [(.tmp 16,_),(.tmp 17,_)] [[1,3],[2]] rfl rfl l7 (.cons rfl .rep (.cons rfl .rep .nil)) rfl rfl) ?_
 refine cz rfl (bj (t:=(.slice Tl)) [(.tmp 10,_),(.tmp 13,_),(.tmp 15,_),(.tmp 18,_)] [[[0,1,2],[3]],[[0,1],[2,3]],[[1,2,3]],[[1,3],[2]]] rfl rfl BI (.cons rfl .rep (.cons rfl .rep (.cons rfl .rep (.cons rfl .rep .nil)))) rfl rfl) ⟨rfl,rfl,rfl,rfl,trivial⟩ ?_
 iterate 2 refine mq ?_
 obtain⟨u6,c,h⟩:=aa h
 refine dS rfl rfl rfl (cg rfl rfl Le (am c)) ⟨rfl,rfl,trivial⟩ λv7=>?_
 refine d4 (ip [22] ⟨rfl,trivial⟩) ?_
 refine cz rfl (eB [(0,.const (.int .i64 (4)),_),(1,.const (.int .i64 (1)),_),(2,.const (.int .i64 (1)),_),(3,.const (.int .i64 (2)),_),(4,.tmp 19,_),(5,.tmp 22,_)] rfl Rh yU OC (jV ⟨rfl,rfl,rfl,rfl,rfl,rfl,trivial⟩) rfl) ⟨rfl,rfl,rfl,rfl,rfl,rfl,trivial⟩ ?_
 refine aM rfl rfl (aI rfl iM trivial rfl rfl) ⟨rfl,rfl,trivial⟩ ?_
 refine nt ?_
 refine aA ?_
 refine bM (ge (a:=.agg (.pair (I 4) (.pair (I 1) (.pair (I 1) (.pair (I 2) (.pair (.rep (.slice (.slice Tl)) [[[0,1,2],[3]],[[0,1],[2,3]],[[1,2,3]],[[1,3],[2]]]) (Rs bf ([r2,r3,r4]++a0)))))))) (a':=.rep au (4,1,1,2,[[[0,1,2],[3]],[[0,1],[2,3]],[[1,2,3]],[[1,3],[2]]],[r2,r3,r4]++a0)) (iq (.agg (.pair .int (.pair .int (.pair .int (.pair .int (.pair .rep .rep)))))))) ?_
 cases h
 exact aQ () [.rep au (4,1,1,2,[[[0,1,2],[3]],[[0,1],[2,3]],[[1,2,3]],[[1,3],[2]]],[r2,r3,r4]++a0)] 0 ⟨⟨_,_,_,_,_,rfl,(.head _),iM,(t6),rfl⟩,trivial⟩ rfl
def fX(k:Nat):Nat->((List Int)×Int×Int)->Option (List Int)
 |0,_=>none
 |n+1,y2=>
  if y2.2.1 < y2.2.2 then((aR y2.1 y2.2.2).bind λx4=>
  (aR y2.1 y2.2.1).bind λx5=>
  (aR y2.1 y2.2.1).bind λx6=>
  (aR (List.set y2.1 (Int.toNat y2.2.1) x4) y2.2.2).bind λx7=>
  (ck (y2.2.1+1)).bind λx8=>
  (ck (y2.2.2 - 1)).bind λx9=>
  fX k n (List.set (List.set y2.1 (Int.toNat y2.2.1) x4) (Int.toNat y2.2.2) x5,x8,x9)) else(some y2.1)
def ky(k:Nat)(a0:(List Int)):Option (List Int):=
 (ck ((a0.length:Int) - 1)).bind λx1=>
 fX k k (a0,0,x1)
theorem qq(k:Nat)(a0:(List Int))(c:Value)(r:(List Int))(h:ky k a0=some r):
 dy Tryz.prog 81 [.eq c] [.sl c 3 Ti a0] (λ_:Unit=>(bD [],[.sl c 3 Ti r])):=by
 unfold ky at h
 replace h:=be h
 refine dy.of 28 Tryz.func81 rfl Tryz.ntmps81 rfl λS w0=>?_
 refine sr ?_
 refine mq ?_
 refine ka (jA rfl rfl g7) ?_
 obtain⟨x1,mc,h⟩:=aa h
 refine jb (dM rfl mc) ?_
 refine cq ?_
 refine aq ?_
 refine nt ?_
 refine ai ?_
 refine aG (λz3 y2=>[(0,.eq c),(2,I y2.2.1),(3,I y2.2.2)]) (λz3 y2=>[.sl c 3 Ti y2.1]) (fX k) k () (a0,0,x1) (λ_=>rfl) h (SE.fin [0] ⟨rfl,rfl,rfl,trivial⟩ rfl) (λn z3 y2 h=>?_)
 unfold fX at h
 refine aj ?_
 refine sr ?_
 iterate 2 refine mq ?_
 refine jb (bA rfl) ?_
 refine nt ?_
 refine ci h (λh=>?_) (λh=>?_)
 .
  refine sk (aj (ai (nu ?_)));refine bb rfl rfl rfl (aV rfl) ⟨rfl,trivial⟩ ?_;refine bb rfl rfl rfl (aV rfl) ⟨rfl,trivial⟩ ?_;refine bb rfl rfl rfl (aV rfl) ⟨rfl,trivial⟩ ?_;refine bb rfl rfl rfl (aV rfl) ⟨rfl,trivial⟩ ?_;refine bb rfl rfl rfl (aV rfl) ⟨rfl,trivial⟩ ?_;refine bb rfl rfl rfl (aV rfl) ⟨rfl,trivial⟩ ?_;obtain⟨x4,D,h⟩:=aa h;refine eR 0 rfl rfl rfl rfl (bB (t:=Ti) rfl g7 cF D) ⟨rfl,rfl,trivial⟩ ?_;refine eR 0 rfl rfl rfl rfl (eg (i:=Int.toNat y2.2.2) (off:=0) rfl cF (λ_=>rfl) rfl (dR D).2.2 rfl) ⟨rfl,trivial⟩ ?_;refine bb rfl rfl rfl (aV rfl) ⟨rfl,trivial⟩ ?_;refine bb rfl rfl rfl (aV rfl) ⟨rfl,trivial⟩ ?_;obtain⟨x5,y,h⟩:=aa h;refine eR 0 rfl rfl rfl rfl (bB (t:=Ti) rfl g7 cF y) ⟨rfl,rfl,trivial⟩ ?_;refine eR 0 rfl rfl rfl rfl (eg (i:=Int.toNat y2.2.1) (off:=0) rfl cF (λ_=>rfl) rfl (dR y).2.2 rfl) ⟨rfl,trivial⟩ ?_;obtain⟨x6,x,h⟩:=aa h;refine eR 0 rfl rfl rfl rfl (bB (t:=Ti) rfl g7 cF x) ⟨rfl,rfl,trivial⟩ ?_;refine qX 13 [true,true,false,false,true,true,true,true,true,true,true,true,true] [27] [] [] rfl (by kernel_rfl) (by kernel_rfl) (by kernel_rfl) dz (λvs hv hB=>?_);obtain⟨w0,Wm,rfl,Y⟩:=an hv;obtain⟨w1,Wj,rfl,X⟩:=an Y;obtain⟨w2,Wi,rfl,U⟩:=an X;obtain⟨w3,Wh,rfl,Q⟩:=an U;obtain⟨w4,Wg,rfl,O⟩:=an Q;obtain⟨w5,We,rfl,M⟩:=an O;obtain⟨w6,Wc,rfl,J⟩:=an M;obtain⟨w7,Wb,rfl,F⟩:=an J;obtain⟨w8,Wa,rfl,E⟩:=an F;obtain⟨w9,zz,rfl,s⟩:=an E;obtain⟨V9,qt,rfl,l⟩:=an s;obtain⟨V8,pq,rfl,j⟩:=an l;obtain⟨zM,mw,rfl,e⟩:=an j;obtain rfl:=nK e;refine⟨[0],[.sl c 3 Ti y2.1],by kernel_rfl,by decide,?_⟩;refine pg rfl rfl (eX (i:=Int.toNat y2.2.1) rfl cF rfl (nM x) rfl .int rfl) ⟨rfl,rfl,trivial⟩ (by kernel_rfl) ?_;obtain⟨x7,u,h⟩:=aa h;refine tq rfl rfl rfl rfl (bB (t:=Ti) rfl g7 cF u) ⟨rfl,rfl,trivial⟩ (by kernel_rfl) ?_;refine pg rfl rfl (eX (i:=Int.toNat y2.2.2) rfl cF rfl (nM u) rfl .int rfl) ⟨rfl,rfl,trivial⟩ (by kernel_rfl) ?_;refine vv ?_;refine bM (SE.fin (Γ':=[(0,.eq c),(2,I y2.2.1),(3,I y2.2.2)]) (Δ':=[.sl c 3 Ti (List.set (List.set y2.1 (Int.toNat y2.2.1) x4) (Int.toNat y2.2.2) x5)]) [0] ⟨rfl,rfl,rfl,trivial⟩ rfl) ?_;refine aL (tn (ab (mq ?_)));obtain⟨x8,gw,h⟩:=aa h;refine jb (bp rfl gw) ?_;refine mq ?_;obtain⟨x9,Z,h⟩:=aa h;refine jb (dM rfl Z) ?_;refine aq ?_;refine aq (nl ?_);exact jz ((),(List.set (List.set y2.1 (Int.toNat y2.2.1) x4) (Int.toNat y2.2.2) x5,x8,x9)) h [0]
 .
  refine fD (bO (bO (c7 (ju ?_))));cases h;exact aQ () [] 1 trivial rfl
def kP(k:Nat)(a0:Int):Option Int:=
 (ji k a0).bind λr1=>
 some (r1.length:Int)
theorem oc(k:Nat)(a0:Int)(r:Int)(h:kP k a0=some r):
 dy Tryz.prog 88 [.eq (.int .u8 a0)] [] (λ_:Unit=>(bD [I r],[])):=by
 unfold kP at h
 replace h:=be h
 refine dy.of 6 Tryz.func88 rfl Tryz.ntmps88 rfl λS w0=>?_
 refine sr ?_
 refine cq ?_
 refine nt ?_
 refine sr ?_
 refine mq ?_
 obtain⟨r1,c,h⟩:=aa h
 have e:=kC k a0 r1 c
 refine ja (ay [.tmp 3] rfl rfl P7 rfl e) ?_
 refine ol g7 ?_
 refine aq ?_
 refine nt ?_
 refine aA ?_
 cases h
 exact ra
def nH(k:Nat)(a0:Int)(a1:Int):Option Int:=
 (kP k a0).bind λr1=>
 (kP k a1).bind λr2=>
 (ck (r1 - r2)).bind λx3=>
 some x3
theorem tQ(k:Nat)(a0:Int)(a1:Int)(c:Nat)(r:Int)(h:nH k a0 a1=some r):
 dy Tryz.prog 116 [.eq (.int .u8 a0),.eq (.int .u8 a1),Pt c] [.obj c 140 (.eq (.func (.func 88) #[] #[]))] (λ_:Unit=>(bD [I r],[.obj c 140 (.eq (.func (.func 88) #[] #[]))])):=by
 unfold nH at h
 replace h:=be h
 refine dy.of 13 Tryz.func116 rfl Tryz.ntmps116 rfl λS w0=>?_
 refine sr ?_
 refine cq ?_
 refine nt ?_
 refine aj ?_
 refine co ?_
 refine ea 0 (ax rfl Oh ny rfl) ?_
 refine dm ?_
 obtain⟨r1,l,h⟩:=aa h
 have s:=oc k a0 r1 l
 refine db (t4 (fs:=[]) (cs:=[]) (ags:=[.eq (.int .u8 a0)]) [.tmp 7] rfl rfl Sl rfl s) ?_
 refine ea 0 (ax rfl Oh ny rfl) ?_
 refine dm ?_
 refine df dz ?_
 obtain⟨r2,j,h⟩:=aa h
 have n:=oc k a1 r2 j
 refine jb (t4 (fs:=[]) (cs:=[]) (ags:=[.eq (.int .u8 a1)]) [.tmp 10] rfl rfl Sl rfl n) ?_
 obtain⟨x3,e,h⟩:=aa h
 refine jb (dM rfl e) ?_
 refine aq ?_
 refine nt ?_
 refine aA ?_
 cases h
 exact aQ () [_] 1 ⟨rfl,trivial⟩ rfl
def fY(k:Nat)(a0:(List Int)):Nat->(Int×Int)->Option Int
 |0,_=>none
 |n+1,y4=>
  if y4.2 < (a0.length:Int) then((((aR a0 y4.2).bind λx8=>
  (nH k x8 y4.1).bind λr9=>
  if r9 < 0 then((aR a0 y4.2).bind λe=>
  some e) else(some y4.1)):Option (Int)).bind λx6=>
  (ck (y4.2+1)).bind λc=>
  fY k a0 n (x6,c)) else(some y4.1)
def kz(k:Nat)(a0:(List Int)):Option Int:=
 if(a0.length:Int) < 1 then(none) else((aR a0 0).bind λx1=>
 ((fY k a0 k (x1,1)):Option (Int)).bind λx2=>
 some x2)
theorem qs(k:Nat)(a0:(List Int))(c_a1_0:Nat)(r:Int)(h:kz k a0=some r):
 dy Tryz.prog 115 [.rep (.slice (.int .u8)) a0,.eq (.func (.func 116) #[] #[(Pv c_a1_0)])] [.obj c_a1_0 140 (.eq (.func (.func 88) #[] #[]))] (λ_:Unit=>(bD [.eq (.int .u8 r)],[.obj c_a1_0 140 (.eq (.func (.func 88) #[] #[]))])):=by
 unfold kz at h
 replace h:=be h
 refine dy.of 33 Tryz.func115 rfl Tryz.ntmps115 rfl λS w0=>?_
 refine sr ?_
 refine cq ?_
 refine nt ?_
 refine aj ?_
 refine sr ?_
 refine mq ?_
 refine ol A1 ?_
 refine jb (bA rfl) ?_
 refine nt ?_
 refine ci h (λh=>?_) (λh=>?_)
 .
  cases h
 .
  refine sk (sr (mq ?_));obtain⟨x1,u,h⟩:=aa h;refine jb (aW (t:=(.int .u8)) rfl A1 qi u) ?_;refine ja (av (t:=(.int .u8)) rfl qi rfl) ?_;refine aq (nt ?_);refine aJ (Z:=Unit) (α:=Int) (λz3 x2=>[(5,.eq (.int .u8 x2))]) (λz3 x2=>[.obj c_a1_0 140 (.eq (.func (.func 88) #[] #[]))]) h (λK h=>?_) (λz3 x2 h=>?_)
  .refine sr (cq (nt (ai ?_)));refine aG (λz5 y4=>[(0,.rep (.slice (.int .u8)) a0),(1,.eq (.func (.func 116) #[] #[(Pv c_a1_0)])),(5,.eq (.int .u8 y4.1)),(6,I y4.2)]) (λz5 y4=>[.obj c_a1_0 140 (.eq (.func (.func 88) #[] #[]))]) (fY k a0) k () (x1,1) (λ_=>rfl) h (SE.fin [0] ⟨rfl,rfl,rfl,rfl,trivial⟩ rfl) (λn z5 y4 h=>?_);unfold fY at h;refine aj (sr ?_);iterate 2 refine mq ?_
   refine ol A1 ?_;refine jb (bA rfl) ?_;refine nt (ci h (λh=>?_) (λh=>?_))
   .refine sk (aJ (Z:=Unit) (α:=Int) (λz7 x6=>[(0,.rep (.slice (.int .u8)) a0),(1,.eq (.func (.func 116) #[] #[(Pv c_a1_0)])),(5,.eq (.int .u8 x6)),(6,I y4.2)]) (λz7 x6=>[.obj c_a1_0 140 (.eq (.func (.func 88) #[] #[]))]) h (λK h=>?_) (λz7 x6 h=>?_))
    .refine ai (sr ?_);iterate 3 refine mq ?_
     obtain⟨x8,s,h⟩:=aa h;refine jb (aW (t:=(.int .u8)) rfl A1 qi s) ?_;refine ja (av (t:=(.int .u8)) rfl qi rfl) ?_;refine mq ?_;obtain⟨r9,x,h⟩:=aa h;refine kc (t4 (fs:=[]) (cs:=[(Pv c_a1_0)]) (ags:=[.eq (.int .u8 x8),.eq (.int .u8 y4.1)]) [.tmp 24,.tmp 25] rfl rfl SS rfl (tQ k x8 y4.1 c_a1_0 r9 x)) ?_;refine jb (bA rfl) ?_;refine nt (ci h (λh=>?_) (λh=>?_))
     .refine ab ?_;iterate 2 refine mq ?_
      obtain⟨l,e,h⟩:=aa h;refine jb (aW (t:=(.int .u8)) rfl A1 qi e) ?_;refine ja (av (t:=(.int .u8)) rfl qi rfl) ?_;refine aq (aH (bn ?_));exact jz ((),l) h [0]
     .refine bg (bn ?_);exact jz ((),y4.1) h [0]
    .refine ab (mq ?_);obtain⟨j,c,h⟩:=aa h;refine jb (bp rfl c) ?_;refine aq (nl ?_);exact jz ((),(x6,j)) h [0]
   .refine xa ?_;exact jz ((),y4.1) h [0]
  .refine sr (mq ?_);refine aq (nt (aA ?_));cases h;exact aQ () [_] 1 ⟨rfl,trivial⟩ rfl
def qG(k:Nat)(a0:(List Int)):Option Int:=
 (kz k a0).bind λr2=>
 some r2
theorem vY(k:Nat)(a0:(List Int))(r:Int)(h:qG k a0=some r):
 dy Tryz.prog 87 [.rep (.slice (.int .u8)) a0,.eq (.func (.func 88) #[] #[])] [] (λ_:Unit=>(bD [.eq (.int .u8 r)],[])):=by
 unfold qG at h
 replace h:=be h
 refine dy.of 8 Tryz.func87 rfl Tryz.ntmps87 rfl λS w0=>?_
 refine sr ?_
 refine bx λb1=>?_
 refine cq ?_
 refine nt ?_
 refine sr ?_
 refine mq ?_
 refine ja (oN [] [.tmp 3] [] [(Pv b1)] rfl rfl rfl) ?_
 obtain⟨r2,c,h⟩:=aa h
 have e:=qs k a0 b1 r2 c
 refine kb (ay [.tmp 5,.tmp 6] rfl rfl SU rfl e) ?_
 refine aq ?_
 refine nt ?_
 refine aA ?_
 cases h
 exact ra
def ia(k:Nat)(a0:(List (List Int)))(a1:(List (List Int))):Nat->Int->Option (Except Bool Unit)
 |0,_=>none
 |n+1,y3=>
  if y3 < (a0.length:Int) then((aR a0 y3).bind λx5=>
  (aR a1 y3).bind λx6=>
  (eC k x5 x6).bind λr7=>
  if¬(r7=true) then(some (.error false)) else((ck (y3+1)).bind λx8=>
  ia k a0 a1 n x8)) else(some (.ok ()))
def jR(k:Nat)(a0:(List (List Int)))(a1:(List (List Int))):Option Bool:=
 if¬((a0.length:Int)=(a1.length:Int)) then(some false) else(bE (α:=Unit) (ia k a0 a1 k 0) (some) λ_=>
 some true)
theorem nm(k:Nat)(a0:(List (List Int)))(a1:(List (List Int)))(r:Bool)(h:jR k a0 a1=some r):
 dy Tryz.prog 51 [.rep (.slice Tl) a0,.rep (.slice Tl) a1] [] (λ_:Unit=>(bD [.eq (.bool r)],[])):=by
 unfold jR at h
 replace h:=be h
 refine dy.of 27 Tryz.func51 rfl Tryz.ntmps51 rfl λS w0=>?_
 refine sr ?_
 refine cq ?_
 refine nt ?_
 refine aj ?_
 refine sr ?_
 refine mq ?_
 refine ol oq ?_
 refine mq ?_
 refine ol oq ?_
 refine jb (fB rfl) ?_
 refine nt ?_
 refine cn h (λh=>?_) (λh=>?_)
 .
  refine sr (cq (nt (rx ?_)));cases h;exact ra
 .
  refine sk (dk (Z:=Unit) (α:=Unit) (λz2 x1=>[]) (λz2 x1=>[]) (λe=>e=r) h (λe h=>Option.some.inj h) (λK hR h=>?_) (λz2 x1 h=>?_))
  .refine sr (cq (nt (ai ?_)));refine aG (λz4 y3=>[(0,.rep (.slice Tl) a0),(1,.rep (.slice Tl) a1),(5,I y3)]) (λz4 y3=>[]) (ia k a0 a1) k () 0 (λ_=>rfl) h (SE.fin [] ⟨rfl,rfl,rfl,trivial⟩ rfl) (λn z4 y3 h=>?_);unfold ia at h;refine aj (sr ?_);iterate 2 refine mq ?_
   refine ol oq ?_;refine jb (bA rfl) ?_;refine nt (ci h (λh=>?_) (λh=>?_))
   .refine sk (aj (ai (aj (co ?_))));refine dm ?_;refine dm ?_;obtain⟨x5,l,h⟩:=aa h;refine db (aW (t:=Tl) rfl oq eo l) ?_;refine da (av (t:=Tl) rfl eo rfl) ?_;refine dm ?_;refine dm ?_;obtain⟨x6,j,h⟩:=aa h;refine db (aW (t:=Tl) rfl oq eo j) ?_;refine da (av (t:=Tl) rfl eo rfl) ?_;refine df dz ?_;obtain⟨r7,s,h⟩:=aa h;refine jb (ay [.tmp 20,.tmp 24] rfl rfl MX rfl (iK k x5 x6 r7 s)) ?_;refine ja (ii rfl) ?_;refine nt (cw h (λh=>?_) (λh=>?_))
    .refine sr (cq (nt (aA (br (bh (bo ?_))))));obtain rfl:=hR _ h;exact ra
    .refine bg (aL (tn (ab (mq ?_))));obtain⟨x8,c,h⟩:=aa h;refine jb (bp rfl c) ?_;refine aq (nl ?_);exact jz ((),x8) h []
   .refine xa ?_;exact jz ((),()) h []
  .refine sr (cq (nt (aA ?_)));cases h;exact ra
def cS{σ:Type}(k:Nat)(a0:(List Int))(a3:Int)(self:(List Int)->Int->σ->Option (Bool×σ)):Nat->(Int×σ)->Option (Except (Bool×σ) (σ))
 |0,_=>none
 |n+1,y6=>
  if y6.1 < a3 then((cM (bQ (length a0+length [y6.1]))).bind λ_=>
  (ck (y6.1+1)).bind λh=>
  (self (a0++[y6.1]) h y6.2).bind λc=>
  if¬(c.1=true) then(some (.error (false,c.2))) else((ck (y6.1+1)).bind λe=>
  cS k a0 a3 self n (e,c.2))) else(some (.ok y6.2))
def cL{σ:Type}(k:Nat)(Y:σ->(List Int)->Option (σ×Bool))(a3:Int):Nat->(List Int)->Int->σ->Option (Bool×σ)
 |0,_,_,_=>none
 |m0+1,a0,a1,s0=>
  (dA k a0).bind λr1=>
  (Y s0 r1).bind λr2=>
  if¬(r2.2=true) then(some (false,r2.1)) else(bE (α:=σ) (cS k a0 a3 (cL k Y a3 m0) k (a1,r2.1)) (some) λx4=>
  some (true,x4))
theorem qF{M:Md Tryz.prog}{σ Z:Type}(E:Z->σ->List D)(l:Nat)(Y:σ->(List Int)->Option (σ×Bool))(k:Nat)(u:Nat)(a3:Int)(j:Nat)(c:Nat)(hY:∀z s p r,Y s p=some r->YT M l [.rep Tl p] (E z s) (λz':Z=>(.eq (.bool r.2),E z' r.1))):
 ∀(n:Nat) (a0:(List Int)) (x:Value) (a1:Int) (z0:Z) (s0:σ) (r:Bool×σ),cL k Y a3 n a0 a1 s0=some r->bP M 92 [.eq x,I a1,Pt u,Pt j,Pt c] ([.sl x 3 Ti a0,.obj u 43 (.eq (.func (.yield l) #[] #[])),.obj j 3 (I a3),.obj c 143 (.eq (.func (.func 92) #[] #[(Pv u),(Pv j),(Pv c)]))]++E z0 s0) (λz:Z=>(bD [.eq (.bool r.1)],[.sl x 3 Ti a0,.obj u 43 (.eq (.func (.yield l) #[] #[])),.obj j 3 (I a3),.obj c 143 (.eq (.func (.func 92) #[] #[(Pv u),(Pv j),(Pv c)]))]++E z r.2)):=by
 intro n
 induction n with
 |zero=>intro a0 x a1 z0 s0 r h;cases h
 |succ m0 ih=>
  intro a0 x a1 z0 s0 r h;rw [cL] at h;replace h:=be h;refine bP.of 29 Tryz.func92 rfl Tryz.ntmps92 rfl λS w0=>?_;refine sr (cq (nt (aj (aj ?_))));refine co ?_;refine ea 1 (ax rfl Ui ny rfl) ?_;refine dm ?_;obtain⟨r1,Wa,h⟩:=aa h;refine vC 0 rfl rfl rfl rfl (JU (g9 (N:=[(.tmp 10,.eq x)]) (ay [.tmp 10] rfl rfl SH rfl (mZ k a0 r1 Wa)) (λ_ _ _ hv hn=>⟨(lend hn.1 hv),trivial⟩) (λ_=>⟨rfl,I8 (by simp [D.flat,A.flat,Ty.flat])⟩))) ⟨rfl,trivial⟩ ?_;refine df dz ?_;obtain⟨r2,V9,h⟩:=aa h;refine fr 3 ?_;refine fr 3 ?_;refine fr 3 ?_;refine fr 3 ?_;refine vx [.sl x 3 Ti a0,.obj u 43 (.eq (.func (.yield l) #[] #[])),.obj j 3 (I a3),.obj c 143 (.eq (.func (.func 92) #[] #[(Pv u),(Pv j),(Pv c)]))] rfl rfl rfl (DI [.tmp 11] rfl rfl rfl (hY z0 s0 r1 r2 V9)) ⟨rfl,rfl,trivial⟩ λz3=>?_;refine ja (ii rfl) ?_;refine nt (cw h (λh=>?_) (λh=>?_))
  .refine sr (cq (nt (rx ?_)));cases h;exact jS z3 [_] ⟨rfl,trivial⟩ rfl
  .refine sk (dk (Z:=Z) (α:=σ) (λz5 x4=>[]) (λz5 x4=>[.sl x 3 Ti a0,.obj u 43 (.eq (.func (.yield l) #[] #[])),.obj j 3 (I a3),.obj c 143 (.eq (.func (.func 92) #[] #[(Pv u),(Pv j),(Pv c)]))]++E z5 x4) (λe=>e=r) h (λe h=>Option.some.inj h) (λK hR h=>?_) (λz5 x4 h=>?_))
   .refine sr (mq ?_);refine aq (nt (ai ?_));refine aG (Z:=Z) (α:=Int×σ) (λz7 y6=>[(0,.eq x),(3,Pt j),(4,Pt c),(8,I y6.1)]) (λz7 y6=>[.sl x 3 Ti a0,.obj j 3 (I a3),.obj c 143 (.eq (.func (.func 92) #[] #[(Pv u),(Pv j),(Pv c)])),.obj u 43 (.eq (.func (.yield l) #[] #[]))]++E z7 y6.2) (cS k a0 a3 (cL k Y a3 m0)) k z3 (a1,r2.1) (λ_=>rfl) h (gf [.sl x 3 Ti a0,.obj u 43 (.eq (.func (.yield l) #[] #[])),.obj j 3 (I a3),.obj c 143 (.eq (.func (.func 92) #[] #[(Pv u),(Pv j),(Pv c)]))] (E z3 r2.1) [0,2,3,1] ⟨rfl,rfl,rfl,rfl,trivial⟩ rfl) (λn z7 y6 h=>?_);unfold cS at h;refine aj (sr (mq ?_));refine fr 1 ?_;refine lo cF ?_;refine jb (bA rfl) ?_;refine nt (ci h (λh=>?_) (λh=>?_))
    .refine sk (aj (ai (aj (nu ?_))));refine eR 2 rfl rfl rfl rfl (ax rfl Hk ny rfl) ⟨rfl,trivial⟩ ?_;refine bb rfl rfl rfl (aV rfl) ⟨rfl,trivial⟩ ?_;refine bb rfl rfl rfl (aV rfl) ⟨rfl,trivial⟩ ?_;refine bb rfl rfl rfl (bj (t:=Ti) [(.tmp 22,_)] [y6.1] rfl rfl dL (.cons rfl .int .nil) rfl rfl) ⟨rfl,trivial⟩ ?_;obtain⟨u8,V8,h⟩:=aa h;refine A8 1 rfl (λv=>[.sl v 3 Ti (a0++[y6.1]),.sl (Dv x v (length a0)) 3 Ti (Dw x v a0)]) (λ_=>rfl) rfl rfl rfl (xX rfl rfl dL (am V8) rfl) ⟨rfl,rfl,trivial⟩ ?_;refine bb rfl rfl rfl (aV rfl) ⟨rfl,trivial⟩ ?_;obtain⟨J,Q,h⟩:=aa h;refine bb rfl rfl rfl (bp rfl Q) ⟨rfl,rfl,trivial⟩ ?_;refine NX (pre:=[.obj j 3 (I a3),.sl x 3 Ti a0,.obj c 143 (.eq (.func (.func 92) #[] #[(Pv u),(Pv j),(Pv c)])),.obj u 43 (.eq (.func (.yield l) #[] #[]))]) (E:=E z7 y6.2) 7 [true,true,true,true,true,true,true] [27,28] [] [] rfl (by kernel_rfl) (by kernel_rfl) (by kernel_rfl) dz (by kernel_rfl) (λvs hv hB=>?_);obtain⟨w0,Wj,rfl,zM⟩:=an hv;obtain⟨w1,Wi,rfl,zz⟩:=an zM;obtain⟨w2,Wh,rfl,qt⟩:=an zz;obtain⟨w3,Wg,rfl,pq⟩:=an qt;obtain⟨v9,We,rfl,mw⟩:=an pq;obtain⟨w5,Wc,rfl,mc⟩:=an mw;obtain⟨w6,Wb,rfl,gw⟩:=an mc;obtain rfl:=nK gw;refine⟨[0,1,2,3,4],[.obj j 3 (I a3),.obj c 143 (.eq (.func (.func 92) #[] #[(Pv u),(Pv j),(Pv c)])),.obj u 43 (.eq (.func (.yield l) #[] #[])),.sl v9 3 Ti (a0++[y6.1]),.sl (Dv x v9 (length a0)) 3 Ti (Dw x v9 a0)],by kernel_rfl,by decide,?_⟩;refine NP (Δ':=[.obj j 3 (I a3),.obj c 143 (.eq (.func (.func 92) #[] #[(Pv u),(Pv j),(Pv c)])),.obj u 43 (.eq (.func (.yield l) #[] #[])),.sl v9 3 Ti (a0++[y6.1]),.sl (Dv x v9 (length a0)) 3 Ti (Dw x v9 a0)]++E z7 y6.2) (by kernel_rfl) rfl ?_;obtain⟨F,U,h⟩:=aa h;refine fr 1 ?_;refine fr 1 ?_;refine fr 2 ?_;refine fr 3 ?_;refine fr 4 ?_;refine vx [.sl (Dv x v9 (length a0)) 3 Ti (Dw x v9 a0)] rfl rfl rfl (nc (fs:=[]) (cs:=[(Pv u),(Pv j),(Pv c)]) (ags:=[.eq v9,I J]) [.tmp 24,.tmp 26] rfl rfl Sj rfl (ih (a0++[y6.1]) v9 J z7 y6.2 F U)) ⟨rfl,rfl,rfl,trivial⟩ λy=>?_;refine fr 1 ?_;refine d4 Df ?_;refine ja (ii rfl) ?_;refine nt (cw h (λh=>?_) (λh=>?_))
     .refine sr (cq (nt (aA (br (bh (bo ?_))))));obtain rfl:=hR _ h;exact jS y [_] ⟨rfl,trivial⟩ rfl
     .refine bg (aL (tn (ab (mq ?_))));obtain⟨X,O,h⟩:=aa h;refine jb (bp rfl O) ?_;refine aq (nl ?_);exact lT (y,(X,F.2)) h (gf [.sl x 3 Ti a0,.obj u 43 (.eq (.func (.yield l) #[] #[])),.obj j 3 (I a3),.obj c 143 (.eq (.func (.func 92) #[] #[(Pv u),(Pv j),(Pv c)]))] (E y F.2) [0,2,3,1] ⟨rfl,rfl,rfl,rfl,trivial⟩ rfl)
    .refine xa ?_;exact lT (z7,y6.2) h (gf [.obj j 3 (I a3),.sl x 3 Ti a0,.obj c 143 (.eq (.func (.func 92) #[] #[(Pv u),(Pv j),(Pv c)])),.obj u 43 (.eq (.func (.yield l) #[] #[]))] (E z7 y6.2) [1,3,0,2] trivial rfl)
   .refine sr (cq (nt (aA ?_)));cases h;exact jS z5 [_] ⟨rfl,trivial⟩ rfl
def gx{σ:Type}(k:Nat)(Y:σ->(List Int)->Option (σ×Bool))(a1:Int)(s0:σ):Option (σ):=
 (cL k Y a1 k ([]:(List Int)) 0 s0).bind λr3=>
 some r3.2
theorem sM{M:Md Tryz.prog}{σ Z:Type}(E:Z->σ->List D)(l:Nat)(Y:σ->(List Int)->Option (σ×Bool))(k:Nat)(a1:Int)(c:Nat)(hY:∀z s p r,Y s p=some r->YT M l [.rep Tl p] (E z s) (λz':Z=>(.eq (.bool r.2),E z' r.1))):
 ∀(z0:Z) (s0:σ) (r:σ),gx k Y a1 s0=some r->bP M 91 [.eq (.func (.yield l) #[] #[]),Pt c] ([.obj c 3 (I a1)]++E z0 s0) (λz:Z=>(bD [],[.obj c 3 (I a1)]++E z r)):=by
 intro z0 s0 r h
 unfold gx at h
 replace h:=be h
 refine bP.of 7 Tryz.func91 rfl Tryz.ntmps91 rfl λS w0=>?_
 refine sr ?_
 refine bx λb1=>?_
 refine nt ?_
 refine sr ?_
 refine aS rfl rfl rfl (ba rfl QV Tf) trivial λb2=>?_
 refine nt ?_
 refine sr ?_
 refine jc (oN [] [.tmp 2,.tmp 1,.tmp 3] [] [(Pv b1),(Pv c),(Pv b2)] rfl rfl rfl) ?_
 refine aM rfl rfl (aI rfl Hk rfl rfl rfl) ⟨rfl,rfl,trivial⟩ ?_
 refine nt ?_
 refine ab ?_
 refine lo Hk ?_
 refine d4 (SE.nil 3 Ti) ?_
 obtain⟨r3,e,h⟩:=aa h
 have j:=qF E l Y k b1 a1 c b2 hY k ([]:(List Int)) (.slice none 0 0) 0 z0 s0 r3 e
 refine fr 1 ?_
 refine fr 3 ?_
 refine fr 3 ?_
 refine fr 3 ?_
 refine vy rfl rfl rfl (nc (fs:=[]) (cs:=[(Pv b1),(Pv c),(Pv b2)]) (ags:=[.eq (.slice none 0 0),I 0]) [.const (.slice none 0 0),.const (.int .i64 (0))] rfl rfl Sj rfl j) ⟨rfl,rfl,rfl,trivial⟩ λz4=>?_
 refine aH ?_
 refine ju ?_
 refine bM (gf (Γ':=[]) [.sl (.slice none 0 0) 3 Ti ([]:(List Int)),.obj b1 43 (.eq (.func (.yield l) #[] #[])),.obj c 3 (I a1),.obj b2 143 (.eq (.func (.func 92) #[] #[(Pv b1),(Pv c),(Pv b2)]))] (E z4 r3.2) [2] trivial rfl) ?_
 cases h
 exact jS z4 [] trivial rfl
theorem uL(a0:Int):dy Tryz.prog 61 [I a0] [] (λz:Nat=>(bD [.eq (.func (.func 91) #[] #[(Pv z)])],[.obj z 3 (I a0)])):=by
 refine dy.of 4 Tryz.func61 rfl Tryz.ntmps61 rfl λS w0=>?_;refine sr (bx λz=>?_);refine cq (nt (sr ?_));refine ja (oN [] [.tmp 1] [] [(Pv z)] rfl rfl rfl) ?_;refine aq (nt (aA ?_));exact aQ z [_] 1 ⟨rfl,trivial⟩ rfl
def mA(k:Nat)(a0:(List Int))(a1:(List Int)):Nat->Int->Option (Except Bool Unit)
 |0,_=>none
 |n+1,y3=>
  ((if y3 < (a0.length:Int) then(some (decide (y3 < (a1.length:Int)))) else(some false)):Option (Bool)).bind λx5=>
  if x5=true then((aR a0 y3).bind λx7=>
  (aR a1 y3).bind λx8=>
  if¬(x7=x8) then((aR a0 y3).bind λx9=>
  (aR a1 y3).bind λe=>
  some (.error (decide (x9 < e)))) else((ck (y3+1)).bind λc=>
  mA k a0 a1 n c)) else(some (.ok ()))
def uU(k:Nat)(a0:(List Int))(a1:(List Int)):Option Bool:=
 bE (α:=Unit) (mA k a0 a1 k 0) (some) λ_=>
 some (decide ((a0.length:Int) < (a1.length:Int)))
theorem Am(k:Nat)(a0:(List Int))(a1:(List Int))(r:Bool)(h:uU k a0 a1=some r):
 dy Tryz.prog 93 [.rep Tl a0,.rep Tl a1] [] (λ_:Unit=>(bD [.eq (.bool r)],[])):=by
 unfold uU at h
 replace h:=be h
 refine dy.of 41 Tryz.func93 rfl Tryz.ntmps93 rfl λS w0=>?_
 refine sr ?_
 refine cq ?_
 refine nt ?_
 refine dk (Z:=Unit) (α:=Unit) (λz2 x1=>[(0,.rep Tl a0),(1,.rep Tl a1)]) (λz2 x1=>[]) (λe=>e=r) h (λe h=>Option.some.inj h) (λK hR h=>?_) (λz2 x1 h=>?_)
 .
  refine sr (cq (nt (ai ?_)));refine aG (λz4 y3=>[(0,.rep Tl a0),(1,.rep Tl a1),(5,I y3)]) (λz4 y3=>[]) (mA k a0 a1) k () 0 (λ_=>rfl) h (SE.fin [] ⟨rfl,rfl,rfl,trivial⟩ rfl) (λn z4 y3 h=>?_);unfold mA at h;refine aj (aJ (Z:=Unit) (α:=Bool) (λz6 x5=>[(0,.rep Tl a0),(1,.rep Tl a1),(5,I y3),(15,.eq (.bool x5))]) (λz6 x5=>[]) h (λK h=>?_) (λz6 x5 h=>?_))
  .refine ab ?_;iterate 2 refine mq ?_
   refine ol g7 ?_;refine jb (bA rfl) ?_;refine mq ?_;refine cQ (s:=10) rfl (λhb=>?_) (λhb=>?_)
   .replace h:=eQ (ta hb) h;refine gm ?_;refine gm ?_;refine ga (rG rfl rfl g7) ?_;refine gb (bA rfl) ?_;refine pt (nl ?_);exact jz ((),decide (y3 < (a1.length:Int))) h []
   .replace h:=c6 (tc hb) h;iterate 4 refine gn ?_
    refine pf (nl ?_);exact jz ((),false) h []
  .refine cv h (λh=>?_) (λh=>?_)
   .refine sk (aj (ai (aj (co ?_))));refine dm ?_;refine dm ?_;obtain⟨x7,y,h⟩:=aa h;refine db (aW (t:=Ti) rfl g7 cF y) ?_;refine da (av (t:=Ti) rfl cF rfl) ?_;refine dm ?_;refine dm ?_;obtain⟨x8,x,h⟩:=aa h;refine db (aW (t:=Ti) rfl g7 cF x) ?_;refine da (av (t:=Ti) rfl cF rfl) ?_;refine df dz ?_;refine jb (fB rfl) ?_;refine nt (cn h (λh=>?_) (λh=>?_))
    .refine aj (co ?_);refine dm ?_;refine dm ?_;obtain⟨x9,u,h⟩:=aa h;refine db (aW (t:=Ti) rfl g7 cF u) ?_;refine da (av (t:=Ti) rfl cF rfl) ?_;refine dm ?_;refine dm ?_;obtain⟨D,j,h⟩:=aa h;refine db (aW (t:=Ti) rfl g7 cF j) ?_;refine da (av (t:=Ti) rfl cF rfl) ?_;refine df dz ?_;refine jb (bA rfl) ?_;refine aq (nt (aA (br (bh (bo ?_)))));obtain rfl:=hR _ h;exact ra
    .refine bg (aL (tn (ab (mq ?_))));obtain⟨l,c,h⟩:=aa h;refine jb (bp rfl c) ?_;refine aq (nl ?_);exact jz ((),l) h []
   .refine xa ?_;exact jz ((),()) h []
 .
  refine sr (mq ?_);refine ol g7 ?_;refine mq ?_;refine ol g7 ?_;refine jb (bA rfl) ?_;refine aq (nt (aA ?_));cases h;exact ra
def kU(k:Nat)(y4:(List (List Int))×Int)(r9:(List (List Int))):Nat->((List (List Int))×Int)->Option (List (List Int))
 |0,_=>none
 |n+1,c=>
  if c.2 < (r9.length:Int) then((aR r9 c.2).bind λe=>
  (cM (bQ (length e+length [y4.2]))).bind λ_=>
  (cM (bQ (length c.1+length [e++[y4.2]]))).bind λ_=>
  (ck (c.2+1)).bind λh=>
  kU k y4 r9 n (c.1++[e++[y4.2]],h)) else(some c.1)
def kV(k:Nat)(a0:Int)(a1:Int)(self:Int->Int->Option ((List (List Int)))):Nat->((List (List Int))×Int)->Option (List (List Int))
 |0,_=>none
 |n+1,y4=>
  if y4.2 < a0 then((((ck (a1 - 1)).bind λx8=>
  (self y4.2 x8).bind λr9=>
  kU k y4 r9 k (y4.1,0)):Option ((List (List Int)))).bind λx6=>
  (ck (y4.2+1)).bind λc=>
  kV k a0 a1 self n (x6,c)) else(some y4.1)
def kS(k:Nat):Nat->((List (List Int))×Int)->Option (List (List Int))
 |0,_=>none
 |n+1,c=>
  ((if 0 < c.2 then((aR c.1 c.2).bind λx=>
  (ck (c.2 - 1)).bind λu=>
  (aR c.1 u).bind λs=>
  (uU k x s).bind λD=>
  some D) else(some false)):Option (Bool)).bind λy=>
  if y=true then((ck (c.2 - 1)).bind λh=>
  (ck (c.2 - 1)).bind λr=>
  (aR c.1 r).bind λe=>
  (aR c.1 c.2).bind λl=>
  (aR c.1 c.2).bind λF=>
  (aR (List.set c.1 (Int.toNat c.2) e) h).bind λE=>
  (ck (c.2 - 1)).bind λj=>
  kS k n (List.set (List.set c.1 (Int.toNat c.2) e) (Int.toNat h) l,j)) else(some c.1)
def kT(k:Nat):Nat->((List (List Int))×Int)->Option (List (List Int))
 |0,_=>none
 |n+1,c=>
  if c.2 < (c.1.length:Int) then(((kS k k (c.1,c.2)):Option ((List (List Int)))).bind λh=>
  (ck (c.2+1)).bind λe=>
  kT k n (h,e)) else(some c.1)
def ib(k:Nat):Nat->Int->Int->Option ((List (List Int)))
 |0,_,_=>none
 |m0+1,a0,a1=>
  if a1=0 then(some [[]]) else((((ck (a1 - 1)).bind λx3=>
  kV k a0 a1 (ib k m0) k (([]:(List (List Int))),x3)):Option ((List (List Int)))).bind λx1=>
  ((kT k k (x1,1)):Option ((List (List Int)))).bind λc=>
  some c)
theorem wh(k:Nat):
 ∀(n:Nat) (a0:Int) (a1:Int) (r:(List (List Int))),ib k n a0 a1=some r->dy Tryz.prog 63 [I a0,I a1] ([]) (λz:Value×(Nat->Value)=>(bD [.eq z.1],.sl z.1 22 .val (gP z.2 0 r)::fN z.2 0 r)):=by
 intro n
 induction n with
 |zero=>intro a0 a1 r h;cases h
 |succ m0 ih=>
  intro a0 a1 r h;rw [ib] at h;replace h:=be h;refine dy.of 81 Tryz.func63 rfl Tryz.ntmps63 rfl λS w0=>?_;refine sr (cq (nt (aj (sr ?_))));refine mq ?_;refine jb (jg rfl) ?_;refine nt (ci h (λh=>?_) (λh=>?_))
  .refine sr (aS rfl rfl rfl (iN (t:=.val) [(.const (.slice none 0 0),.eq (.slice none 0 0))] [.slice none 0 0] rfl rfl l7 (.cons rfl (.val rfl) .nil) rfl rfl) ⟨rfl,trivial⟩ λv1=>?_);refine aq (nt (rx ?_));refine bM (SE.nil 3 Ti) ?_;refine bM (SE.pp (List.Perm.swap _ _ _)) ?_;cases h;exact jS (v1,λ_=>.slice none 0 0) [_] ⟨rfl,trivial⟩ rfl
  .refine sk (sr (cq (nt ?_)));refine aJ (Z:=Value×(Nat->Value)) (α:=(List (List Int))) (λz2 x1=>[(5,.eq z2.1)]) (λz2 x1=>.sl z2.1 22 .val (gP z2.2 0 x1)::fN z2.2 0 x1) h (λK h=>?_) (λz2 x1 h=>?_)
   .refine sr (mq ?_);obtain⟨x3,WY,h⟩:=aa h;refine jb (dM rfl WY) ?_;refine aq (nt (ai ?_));refine ik (SE.nil 22 .val) ?_;refine aG (λz5 y4=>[(0,I a0),(1,I a1),(5,.eq z5.1),(6,I y4.2)]) (λz5 y4=>.sl z5.1 22 .val (gP z5.2 0 y4.1)::fN z5.2 0 y4.1) (kV k a0 a1 (ib k m0)) k (.slice none 0 0,λ_=>.slice none 0 0) (([]:(List (List Int))),x3) (λ_=>rfl) h (ek ⟨rfl,rfl,rfl,rfl,trivial⟩ jW) (λn z5 y4 h=>?_);unfold kV at h;refine aj (sr ?_);iterate 2 refine mq ?_
    refine jb (bA rfl) ?_;refine nt (ci h (λh=>?_) (λh=>?_))
    .refine sk (aJ (Z:=Value×(Nat->Value)) (α:=(List (List Int))) (λz7 x6=>[(0,I a0),(1,I a1),(5,.eq z7.1),(6,I y4.2)]) (λz7 x6=>.sl z7.1 22 .val (gP z7.2 0 x6)::fN z7.2 0 x6) h (λK h=>?_) (λz7 x6 h=>?_))
     .refine ai (sr ?_);iterate 2 refine mq ?_
      obtain⟨x8,WX,h⟩:=aa h;refine jb (dM rfl WX) ?_;obtain⟨r9,WZ,h⟩:=aa h;refine aN (Δ:=[]) (F:=_) (λ_ _ _=>ah rfl _) rfl rfl (ay [.tmp 21,.tmp 23] rfl rfl SB rfl (ih y4.2 x8 r9 WZ)) ⟨rfl,rfl,trivial⟩ λz=>?_;refine aq (nt (sr ?_));refine cq (nt (ai ?_));refine aG (λl j=>[(0,I a0),(1,I a1),(5,.eq l.1),(6,I y4.2),(7,.eq z.1),(8,I j.2)]) (λl j=>.sl l.1 22 .val (gP l.2 0 j.1):: .sl z.1 22 .val (gP z.2 0 r9)::(fN l.2 0 j.1++fN z.2 j.2.toNat (r9.drop j.2.toNat))) (kU k y4 r9) k z5 (y4.1,0) (λ_=>rfl) h (ek (junk:=[]) ⟨rfl,rfl,rfl,rfl,rfl,rfl,trivial⟩ ?perm1) (λn l j h=>?_)
      case perm1=>
       show List.Perm ((D.sl z.1 22 .val (gP z.2 0 r9)::fN z.2 0 r9)++(D.sl z5.1 22 .val (gP z5.2 0 y4.1)::fN z5.2 0 y4.1)) ((D.sl z5.1 22 .val (gP z5.2 0 y4.1)::D.sl z.1 22 .val (gP z.2 0 r9)::(fN z5.2 0 y4.1++fN z.2 0 r9))++[]);rw [append_nil];exact(perm_append_comm (l₁:=D.sl z.1 22 .val (gP z.2 0 r9)::fN z.2 0 r9)).trans (List.Perm.cons _ (perm_middle (l₁:=fN z5.2 0 y4.1)))
      unfold kU at h;refine aj (sr ?_);iterate 2 refine mq ?_
      refine fr 1 ?_;refine ka (jA rfl rfl oq) ?_;refine fr 1 ?_;refine jb (bA rfl) ?_;refine nt (ig rfl (λhb=>?_) (λhb=>?_))
      .rw [eU] at hb;replace h:=eQ (ta hb) h;refine sk (aj (ai (ab ?_)));iterate 3 refine mq ?_
       obtain⟨zM,mw,h⟩:=aa h;obtain⟨Xp,WM⟩:=gJ mw;refine fr 1 ?_;refine kb (bB (t:=.val) rfl oq eo (fC mw)) ?_;refine ka (eg (t:=.val) (i:=Int.toNat j.2) (off:=0) rfl eo (λ_=>rfl) rfl (gJ (fC mw)).2 rfl) ?_;refine mq ?_;refine ja (bj (t:=Ti) [(.tmp 36,_)] [y4.2] rfl rfl dL (.cons rfl .int .nil) rfl rfl) ?_;rw [HW WM];refine d4 (SE.pp (Δ':=.sl (z.2 j.2.toNat) 3 Ti zM:: .sl l.1 22 .val (gP l.2 0 j.1):: .sl z.1 22 .val (gP z.2 0 r9)::(fN l.2 0 j.1++fN z.2 (j.2.toNat+1) (r9.drop (j.2.toNat+1)))) ?perm2) ?_
       case perm2=>
        show List.Perm (D.sl z.1 22 .val (gP z.2 0 r9)::D.sl l.1 22 .val (gP l.2 0 j.1)::(fN l.2 0 j.1++(D.sl (z.2 j.2.toNat) 3 Ti zM::fN z.2 (j.2.toNat+1) (r9.drop (j.2.toNat+1))))) _;refine(List.Perm.swap _ _ _).trans ?_;exact(((perm_middle (l₁:=fN l.2 0 j.1)).cons _).cons _).trans (perm_middle (l₁:=[D.sl l.1 22 .val (gP l.2 0 j.1),D.sl z.1 22 .val (gP z.2 0 r9)]))
       obtain⟨Xo,WB,h⟩:=aa h;refine dS rfl rfl rfl (cg rfl rfl dL (am WB)) ⟨rfl,rfl,trivial⟩ λQ=>?_;refine qW λo14=>?_;refine ja (bj (t:=.val) [(.tmp 38,.eq Q)] [Q] rfl rfl l7 (.cons o14 (.val o14) .nil) rfl rfl) ?_;obtain⟨Xn,WA,h⟩:=aa h;refine fr 1 ?_;refine dS rfl rfl rfl (cg rfl rfl l7 (show bQ ((gP l.2 0 j.1).length+[Q].length) by rw [eU];exact am WA)) ⟨rfl,rfl,trivial⟩ λWi=>?_;refine aq (aH (aL (tn (ab ?_))));refine mq ?_;obtain⟨Wh,Wb,h⟩:=aa h;refine jb (bp rfl Wb) ?_;refine aq (nl ?_);have W0:Wh.toNat=j.2.toNat+1:=by have:=C0 Wb;omega
       refine lT ((Wi,og l.2 j.1.length Q),(j.1++[zM++[y4.2]],Wh)) h (ek (junk:=[]) ⟨rfl,rfl,rfl,rfl,rfl,rfl,trivial⟩ ?perm3)
       case perm3=>
        simp only;rw [G6,HU,W0,append_nil];show List.Perm (D.sl Wi 22 .val (gP l.2 0 j.1++[Q])::D.sl Q 3 Ti (zM++[y4.2])::D.sl z.1 22 .val (gP z.2 0 r9)::(fN l.2 0 j.1++fN z.2 (j.2.toNat+1) (r9.drop (j.2.toNat+1)))) _;rw [List.append_assoc];exact((List.Perm.swap _ _ _).trans ((perm_middle (l₁:=fN l.2 0 j.1)).symm.cons _)).cons _
      .rw [eU] at hb;replace h:=c6 (tc hb) h;refine fD (bO (bO (c7 (bn ?_))));exact lT (l,j.1) h (ek (junk:=.sl z.1 22 .val (gP z.2 0 r9)::fN z.2 j.2.toNat (r9.drop j.2.toNat)) ⟨rfl,rfl,rfl,rfl,trivial⟩ ((perm_middle (l₁:=fN l.2 0 j.1)).symm.cons _))
     .refine ab (mq ?_);obtain⟨WL,Wz,h⟩:=aa h;refine jb (bp rfl Wz) ?_;refine aq (nl ?_);exact lT (z7,(x6,WL)) h (ek ⟨rfl,rfl,rfl,rfl,trivial⟩ jW)
    .refine xa ?_;exact lT (z5,y4.1) h (ek ⟨rfl,trivial⟩ jW)
   .refine aJ (Z:=Nat->Value) (α:=(List (List Int))) (λX zz=>[(5,.eq z2.1)]) (λX zz=>.sl z2.1 22 .val (gP X 0 zz)::fN X 0 zz) h (λK h=>?_) (λX zz h=>?_)
    .refine sr (cq (nt (ai ?_)));refine aG (λO u=>[(5,.eq z2.1),(9,I u.2)]) (λO u=>.sl z2.1 22 .val (gP O 0 u.1)::fN O 0 u.1) (kT k) k z2.2 (x1,1) (λ_=>rfl) h (ek ⟨rfl,rfl,trivial⟩ jW) (λn O u h=>?_);unfold kT at h;refine aj (sr ?_);iterate 2 refine mq ?_
     refine ka (jA rfl rfl oq) ?_;refine jb (bA rfl) ?_;refine nt (ig rfl (λhb=>?_) (λhb=>?_))
     .rw [eU] at hb;replace h:=eQ (ta hb) h;refine sk (aJ (Z:=Nat->Value) (α:=(List (List Int))) (λU mc=>[(5,.eq z2.1),(9,I u.2)]) (λU mc=>.sl z2.1 22 .val (gP U 0 mc)::fN U 0 mc) h (λK h=>?_) (λU mc h=>?_))
      .refine ai (sr (mq ?_));refine aq (nt (ai ?_));refine aG (λe c=>[(5,.eq z2.1),(9,I u.2),(10,I c.2)]) (λe c=>.sl z2.1 22 .val (gP e 0 c.1)::fN e 0 c.1) (kS k) k O (u.1,u.2) (λ_=>rfl) h (ek ⟨rfl,rfl,rfl,trivial⟩ jW) (λn e c h=>?_);unfold kS at h;refine aj (aJ (Z:=Unit) (α:=Bool) (λWg We=>[(5,.eq z2.1),(9,I u.2),(10,I c.2),(61,.eq (.bool We))]) (λWg We=>.sl z2.1 22 .val (gP e 0 c.1)::fN e 0 c.1) h (λK h=>?_) (λWg We h=>?_))
       .refine co ?_;refine dm ?_;refine db (ml rfl) ?_;refine sc rfl rfl rfl (aV rfl) ⟨rfl,trivial⟩ (λhb=>?_) (λhb=>?_)
        .replace h:=eQ (ta hb) h;refine bZ rfl rfl rfl rfl rfl (aV rfl) ⟨rfl,rfl,trivial⟩ ?_;refine bZ rfl rfl rfl rfl rfl (aV rfl) ⟨rfl,rfl,trivial⟩ ?_;obtain⟨qt,M,h⟩:=aa h;refine fu 0 rfl rfl rfl rfl rfl rfl (bB (t:=.val) rfl oq eo (fC M)) ⟨rfl,rfl,rfl,trivial⟩ ?_;refine fu 0 rfl rfl rfl rfl rfl rfl (eg (t:=.val) (i:=Int.toNat c.2) (off:=0) rfl eo (λ_=>rfl) rfl (gJ (fC M)).2 rfl) ⟨rfl,rfl,trivial⟩ ?_;refine bZ rfl rfl rfl rfl rfl (aV rfl) ⟨rfl,rfl,trivial⟩ ?_;refine bZ rfl rfl rfl rfl rfl (aV rfl) ⟨rfl,rfl,trivial⟩ ?_;obtain⟨gw,Wa,h⟩:=aa h;refine bZ rfl rfl rfl rfl rfl (dM rfl Wa) ⟨rfl,rfl,rfl,trivial⟩ ?_;obtain⟨Wc,J,h⟩:=aa h;refine fu 0 rfl rfl rfl rfl rfl rfl (bB (t:=.val) rfl oq eo (fC J)) ⟨rfl,rfl,rfl,trivial⟩ ?_;refine fu 0 rfl rfl rfl rfl rfl rfl (eg (t:=.val) (i:=Int.toNat gw) (off:=0) rfl eo (λ_=>rfl) rfl (gJ (fC J)).2 rfl) ⟨rfl,rfl,trivial⟩ ?_;refine df dz ?_;obtain⟨Wj,WC,h⟩:=aa h;have WE:=Am k qt Wc Wj WC;obtain⟨rest,hp⟩:=DG (vs:=e) (gJ M).2 (gJ J).2 (by have:=C0 Wa;have:=(gJ M).1;have:=(gJ J).1;omega);refine d4 (SE.pp ((hp.cons _).trans (perm_middle (l₁:=[D.sl (e c.2.toNat) 3 Ti qt,D.sl (e gw.toNat) 3 Ti Wc])).symm)) ?_
         refine aN (Δ:=[_,_]) (F:=_) (λ_ _ h=>by rw [pu rfl rfl rfl rfl h];simp) rfl rfl
          (g9 (N:=[(.tmp 54,.eq (e c.2.toNat)),(.tmp 59,.eq (e gw.toNat))]) (g9 (N:=[(.tmp 54,.rep Tl qt),(.tmp 59,.eq (e gw.toNat))]) (ay [.tmp 54,.tmp 59] rfl rfl UL rfl WE) (λ_ _ _ hv hn=>⟨hn.1,lend hn.2.1 hv,trivial⟩) (λ_=>⟨rfl,np⟩)) (λ_ _ _ hv hn=>⟨lend hn.1 hv,hn.2⟩) (λ_=>⟨rfl,λd hd=>by simp only [mem_cons,not_mem_nil,or_false] at hd;subst hd;rfl⟩)) ⟨rfl,rfl,trivial⟩ λ_=>?_
         refine pt (nl ?_);refine lT ((),Wj) h (ek (junk:=[]) ⟨rfl,rfl,rfl,rfl,trivial⟩ ?perm4)
         case perm4=>
          rw [append_nil];exact(perm_middle (l₁:=[D.sl (e c.2.toNat) 3 Ti qt,D.sl (e gw.toNat) 3 Ti Wc])).trans (hp.symm.cons _)
        .replace h:=c6 (tc hb) h;iterate 9 refine EQ rfl rfl rfl rfl rfl rfl rfl ?_
         refine df dz ?_;refine gn ?_;refine pf (nl ?_);exact lT ((),false) h (ek ⟨rfl,rfl,rfl,rfl,trivial⟩ jW)
       .refine cv h (λh=>?_) (λh=>?_)
        .refine sk ?_;obtain⟨s,E,h⟩:=aa h;obtain⟨WJ,Wy,h⟩:=aa h;obtain rfl:s=WJ:=Option.some.inj (E.symm.trans Wy);obtain⟨pq,y,h⟩:=aa h;obtain⟨Y,x,h⟩:=aa h;obtain⟨WI,Wx,h⟩:=aa h;obtain rfl:Y=WI:=Option.some.inj (x.symm.trans Wx);obtain⟨W8,W7,h⟩:=aa h;obtain⟨n33,V9⟩:=gJ y;obtain⟨n25,V8⟩:=gJ x;have hne:c.2.toNat≠s.toNat:=by have:=C0 E;omega
         obtain⟨rest,hp⟩:=DG (vs:=e) V8 V9 hne;have hp2:=(hp.cons (D.sl z2.1 22 .val (gP e 0 c.1))).trans (perm_middle (l₁:=[D.sl (e c.2.toNat) 3 Ti Y,D.sl (e s.toNat) 3 Ti pq])).symm;refine aj (ik (SE.pp hp2) ?_);refine J2 λo36=>?_;refine cj 1 rfl ?_;refine J2 λo35=>?_;refine cj 1 rfl ?_;refine ik (SE.pp hp2.symm) ?_;have hlv:(gP e 0 c.1).length=c.1.length:=eU;have hl25:=(List.getElem?_eq_some_iff.1 V8).1;have hl33:=(List.getElem?_eq_some_iff.1 V9).1
         have g38:aR ((gP e 0 c.1).set c.2.toNat (e s.toNat)) s=some (e s.toNat):=by
          have:=fC (vs:=e) y;rw [aR,if_pos n33] at this⊢;rw [List.getElem?_set,if_neg hne];exact this
         refine ai (nu ?_);refine bb rfl rfl rfl (aV rfl) ⟨rfl,trivial⟩ ?_;refine bb rfl rfl rfl (aV rfl) ⟨rfl,trivial⟩ ?_;refine bb rfl rfl rfl (aV rfl) ⟨rfl,trivial⟩ ?_;refine bb rfl rfl rfl (aV rfl) ⟨rfl,trivial⟩ ?_;refine bb rfl rfl rfl (dM rfl E) ⟨rfl,rfl,trivial⟩ ?_;refine bb rfl rfl rfl (aV rfl) ⟨rfl,trivial⟩ ?_;refine bb rfl rfl rfl (aV rfl) ⟨rfl,trivial⟩ ?_;refine bb rfl rfl rfl (dM rfl E) ⟨rfl,rfl,trivial⟩ ?_;refine eR 0 rfl rfl rfl rfl (bB (t:=.val) rfl oq eo (fC y)) ⟨rfl,rfl,trivial⟩ ?_;refine eR 0 rfl rfl rfl rfl (eg (t:=.val) (i:=Int.toNat s) (off:=0) rfl eo (λ_=>rfl) rfl (gJ (fC y)).2 rfl) ⟨rfl,trivial⟩ ?_;refine bb rfl rfl rfl (aV rfl) ⟨rfl,trivial⟩ ?_;refine bb rfl rfl rfl (aV rfl) ⟨rfl,trivial⟩ ?_;refine eR 0 rfl rfl rfl rfl (bB (t:=.val) rfl oq eo (fC x)) ⟨rfl,rfl,trivial⟩ ?_;refine eR 0 rfl rfl rfl rfl (eg (t:=.val) (i:=Int.toNat c.2) (off:=0) rfl eo (λ_=>rfl) rfl (gJ (fC x)).2 rfl) ⟨rfl,trivial⟩ ?_;refine eR 0 rfl rfl rfl rfl (bB (t:=.val) rfl oq eo (fC x)) ⟨rfl,rfl,trivial⟩ ?_;refine qX 15 [true,true,false,false,false,true,true,true,true,true,true,true,true,true,true] [79] [] [] rfl (by kernel_rfl) (by kernel_rfl) (by kernel_rfl) dz (λvs hv hB=>?_);obtain⟨w0,Xm,rfl,WW⟩:=an hv;obtain⟨w1,Xl,rfl,WU⟩:=an WW;obtain⟨w2,Xk,rfl,WT⟩:=an WU;obtain⟨w3,Xj,rfl,WS⟩:=an WT;obtain⟨w4,Xi,rfl,WR⟩:=an WS;obtain⟨w5,Xh,rfl,WQ⟩:=an WR;obtain⟨w6,Xg,rfl,WP⟩:=an WQ;obtain⟨w7,Xf,rfl,WO⟩:=an WP;obtain⟨w8,Xe,rfl,WN⟩:=an WO;obtain⟨w9,W6,rfl,Wt⟩:=an WN;obtain⟨Xd,W5,rfl,Ws⟩:=an Wt;obtain⟨Xc,W4,rfl,Wq⟩:=an Ws;obtain⟨Xb,W3,rfl,Wp⟩:=an Wq;obtain⟨Xa,W2,rfl,Wn⟩:=an Wp;obtain⟨W9,W1,rfl,Wm⟩:=an Wn;obtain rfl:=nK Wm;refine⟨List.range (D.sl z2.1 22 .val (gP e 0 c.1)::fN e 0 c.1).length,.sl z2.1 22 .val (gP e 0 c.1)::fN e 0 c.1,?pick,List.nodup_range,?_⟩
         case pick=>
          unfold iY;rw [NM.keep (by simp only [reverse_cons,List.reverse_nil,nil_append,cons_append];repeat (first |exact trivial |refine⟨⟨λk=>by simp [qS],rfl⟩,?_⟩))];show cU ((D.sl z2.1 22 .val (gP e 0 c.1)::fN e 0 c.1)++[]) _=some _;rw [append_nil];exact Fb
         refine pg rfl rfl (eX (t:=.val) (i:=Int.toNat c.2) rfl eo rfl (by rw [hlv];exact hl25) rfl (.val o35) o35) ⟨rfl,rfl,trivial⟩ (by kernel_rfl) ?_;refine tq rfl rfl rfl rfl (bB (t:=.val) rfl oq eo g38) ⟨rfl,rfl,trivial⟩ (by kernel_rfl) ?_;refine pg rfl rfl (eX (t:=.val) (i:=Int.toNat s) rfl eo rfl (by rw [length_set,hlv];exact hl33) rfl (.val o36) o36) ⟨rfl,rfl,trivial⟩ (by kernel_rfl) ?_;refine vv ?_;refine bM (ek (Γ':=[(5,.eq z2.1),(9,I u.2),(10,I c.2)]) (Δ':=.sl z2.1 22 .val (gP (zt e c.2.toNat s.toNat) 0 (List.set (List.set c.1 (Int.toNat c.2) pq) (Int.toNat s) Y))::fN (zt e c.2.toNat s.toNat) 0 (List.set (List.set c.1 (Int.toNat c.2) pq) (Int.toNat s) Y)) (junk:=[]) ⟨rfl,rfl,rfl,trivial⟩ ?perm5) ?_
         case perm5=>
          rw [append_nil,G5 V8 V9 hne];exact(HT V8 V9 hne).symm.cons _
         refine aL (tn (ab (mq ?_)));obtain⟨WH,Wv,h⟩:=aa h;refine jb (dM rfl Wv) ?_;refine aq (nl ?_);exact lT (zt e c.2.toNat s.toNat,(List.set (List.set c.1 (Int.toNat c.2) pq) (Int.toNat s) Y,WH)) h (ek ⟨rfl,rfl,rfl,trivial⟩ jW)
        .refine fD (bO (bO (c7 (bn ?_))));exact lT (e,c.1) h (ek ⟨rfl,rfl,trivial⟩ jW)
      .refine ab (mq ?_);obtain⟨WG,Wu,h⟩:=aa h;refine jb (bp rfl Wu) ?_;refine aq (nl ?_);exact lT (U,(mc,WG)) h (ek ⟨rfl,rfl,trivial⟩ jW)
     .rw [eU] at hb;replace h:=c6 (tc hb) h;refine xa ?_;exact lT (O,u.1) h (ek ⟨rfl,trivial⟩ jW)
    .refine sr (mq ?_);refine aq (nt (aA ?_));cases h;exact jS (z2.1,X) [_] ⟨rfl,trivial⟩ rfl
theorem yk(k:Nat)(n:Nat)(a0:Int)(a1:Int)(r:(List (List Int)))(h:ib k n a0 a1=some r):dy Tryz.prog 63 [I a0,I a1] [] (λz:Value=>(bD [.eq z],[.sl z 22 Tl r])):=(wh k n a0 a1 r h).frzAll
def fo(k:Nat)(a0:Int):Nat->((List (List Int))×Int)->Option (List (List Int))
 |0,_=>none
 |n+1,y3=>
  if y3.2≤a0 then((ib k k a0 y3.2).bind λr5=>
  (cM (bQ (length y3.1+length r5))).bind λ_=>
  (ck (y3.2+1)).bind λx9=>
  fo k a0 n (y3.1++r5,x9)) else(some y3.1)
def nk(k:Nat)(a0:Int):Option (List (List Int)):=
 ((fo k a0 k (([]:(List (List Int))),0)):Option ((List (List Int)))).bind λx1=>
 some x1
theorem yj(k:Nat)(a0:Int)(r:(List (List Int)))(h:nk k a0=some r):
 dy Tryz.prog 29 [I a0] [] (λ_:Unit=>(bD [.rep (.slice Tl) r],[])):=by
 unfold nk at h
 replace h:=be h
 refine dy.of 16 Tryz.func29 rfl Tryz.ntmps29 rfl λS w0=>?_
 refine sr ?_
 refine cq ?_
 refine nt ?_
 refine sr ?_
 refine cq ?_
 refine nt ?_
 refine aJ (Z:=Value) (α:=(List (List Int))) (λz2 x1=>[(3,.eq z2)]) (λz2 x1=>[.sl z2 22 Tl x1]) h (λK h=>?_) (λz2 x1 h=>?_)
 .
  refine sr (cq (nt (ai ?_)));refine ik (SE.nil 22 Tl) ?_;refine aG (λz4 y3=>[(0,I a0),(3,.eq z4),(4,I y3.2)]) (λz4 y3=>[.sl z4 22 Tl y3.1]) (fo k a0) k (.slice none 0 0) (([]:(List (List Int))),0) (λ_=>rfl) h (SE.fin [0] ⟨rfl,rfl,rfl,trivial⟩ rfl) (λn z4 y3 h=>?_);unfold fo at h;refine aj (sr ?_);iterate 2 refine mq ?_
  refine jb (zL rfl) ?_;refine nt (ci h (λh=>?_) (λh=>?_))
  .refine sk (aj (ai (ab ?_)));iterate 3 refine mq ?_
   obtain⟨r5,j,h⟩:=aa h;refine aS rfl rfl rfl (ay [.tmp 11,.tmp 12] rfl rfl SB rfl (yk k k a0 y3.2 r5 j)) ⟨rfl,rfl,trivial⟩ λv6=>?_;refine d4 (ip [13] ⟨rfl,trivial⟩) ?_;obtain⟨u7,e,h⟩:=aa h;refine dS rfl rfl rfl (cg rfl rfl l7 (am e)) ⟨rfl,rfl,trivial⟩ λv8=>?_;refine aq (aH (aL (tn (ab ?_))));refine mq ?_;obtain⟨x9,c,h⟩:=aa h;refine jb (bp rfl c) ?_;refine aq (nl ?_);exact jz (v8,(y3.1++r5,x9)) h [0]
  .refine xa ?_;exact jz (z4,y3.1) h [0]
 .
  refine sr (mq ?_);refine aq (nt (aA ?_));refine bM (ip [2,3,15] ⟨rfl,rfl,rfl,trivial⟩) ?_;cases h;exact ra
def gQ(k:Nat)(a0:Int)(a1:(List Int))(self:Int->(List Int)->Option ((List (List Int)))):Nat->((List (List Int))×Int)->Option (List (List Int))
 |0,_=>none
 |n+1,y9=>
  if y9.2 < a0 then((cM (bQ (length ([]:(List Int))+length a1))).bind λ_=>
  (cM (bQ (length (([]:(List Int))++a1)+length [y9.2]))).bind λ_=>
  (self a0 ((([]:(List Int))++a1)++[y9.2])).bind λc=>
  (cM (bQ (length y9.1+length c))).bind λ_=>
  (ck (y9.2+1)).bind λe=>
  gQ k a0 a1 self n (y9.1++c,e)) else(some y9.1)
def kO(k:Nat):Nat->Int->(List Int)->Option ((List (List Int)))
 |0,_,_=>none
 |m0+1,a0,a1=>
  ((if 0 < (a1.length:Int) then((ck ((a1.length:Int) - 1)).bind λx4=>
  (aR a1 x4).bind λx5=>
  (ck (x5+1)).bind λx6=>
  some x6) else(some 0)):Option (Int)).bind λx2=>
  ((gQ k a0 a1 (kO k m0) k ([a1],x2)):Option ((List (List Int)))).bind λx7=>
  some x7
theorem BL(k:Nat):
 ∀(n:Nat) (a0:Int) (a1:(List Int)) (r:(List (List Int))),kO k n a0 a1=some r->dy Tryz.prog 30 [I a0,.rep Tl a1] ([]) (λ_:Unit=>(bD [.rep (.slice Tl) r],[])):=by
 intro n
 induction n with
 |zero=>intro a0 a1 r h;cases h
 |succ m0 ih=>
  intro a0 a1 r h;rw [kO] at h;replace h:=be h;refine dy.of 37 Tryz.func30 rfl Tryz.ntmps30 rfl λS w0=>?_;refine sr (cq (nt (sr ?_)));refine mq ?_;refine aS rfl rfl rfl (iN (t:=Tl) [(.tmp 8,_)] [a1] rfl rfl l7 (.cons rfl .rep .nil) rfl rfl) ⟨rfl,trivial⟩ λv1=>?_;refine aq (nt (sr ?_));refine cq (nt ?_);refine aJ (Z:=Unit) (α:=Int) (λz3 x2=>[(0,I a0),(1,.rep Tl a1),(5,.eq v1),(6,I x2)]) (λz3 x2=>[.sl v1 22 Tl [a1]]) h (λK h=>?_) (λz3 x2 h=>?_)
  .refine sr (mq ?_);refine ol g7 ?_;refine jb (ml rfl) ?_;refine nt (ci h (λh=>?_) (λh=>?_))
   .refine ab ?_;iterate 2 refine mq ?_
    refine ol g7 ?_;obtain⟨x4,J,h⟩:=aa h;refine jb (dM rfl J) ?_;obtain⟨x5,F,h⟩:=aa h;refine jb (aW (t:=Ti) rfl g7 cF F) ?_;refine ja (av (t:=Ti) rfl cF rfl) ?_;obtain⟨x6,E,h⟩:=aa h;refine jb (bp rfl E) ?_;refine aq (nl ?_);exact jz ((),x6) h [0]
   .refine bg (ao ?_);exact jz ((),0) h [0]
  .refine aJ (Z:=Value) (α:=(List (List Int))) (λz8 x7=>[(5,.eq z8)]) (λz8 x7=>[.sl z8 22 Tl x7]) h (λK h=>?_) (λz8 x7 h=>?_)
   .refine sr (mq ?_);refine aq (nt (ai ?_));refine aG (λc y9=>[(0,I a0),(1,.rep Tl a1),(5,.eq c),(7,I y9.2)]) (λc y9=>[.sl c 22 Tl y9.1]) (gQ k a0 a1 (kO k m0)) k v1 ([a1],x2) (λ_=>rfl) h (SE.fin [0] ⟨rfl,rfl,rfl,rfl,trivial⟩ rfl) (λn c y9 h=>?_);unfold gQ at h;refine aj (sr ?_);iterate 2 refine mq ?_
    refine jb (bA rfl) ?_;refine nt (ci h (λh=>?_) (λh=>?_))
    .refine sk (aj (ai (ab ?_)));iterate 2 refine mq ?_
     refine aS rfl rfl rfl (iN (t:=Ti) [] ([]:(List Int)) rfl rfl dL .nil rfl rfl) trivial λQ=>?_;refine mq ?_;obtain⟨Y,u,h⟩:=aa h;refine dS rfl rfl rfl (cg rfl rfl dL (am u)) ⟨rfl,rfl,trivial⟩ λO=>?_;refine mq ?_;refine ja (bj (t:=Ti) [(.tmp 31,_)] [y9.2] rfl rfl dL (.cons rfl .int .nil) rfl rfl) ?_;obtain⟨X,s,h⟩:=aa h;refine dS rfl rfl rfl (cg rfl rfl dL (am s)) ⟨rfl,rfl,trivial⟩ λM=>?_;refine d4 (ip [33] ⟨rfl,trivial⟩) ?_;obtain⟨e,x,h⟩:=aa h;refine jb (ay [.tmp 27,.tmp 33] rfl rfl SI rfl (ih a0 ((([]:(List Int))++a1)++[y9.2]) e x)) ?_;obtain⟨U,l,h⟩:=aa h;refine dS rfl rfl rfl (cg rfl rfl l7 (am l)) ⟨rfl,rfl,trivial⟩ λD=>?_;refine aq (aH (aL (tn (ab ?_))));refine mq ?_;obtain⟨y,j,h⟩:=aa h;refine jb (bp rfl j) ?_;refine aq (nl ?_);exact jz (D,(y9.1++e,y)) h [0]
    .refine xa ?_;exact jz (c,y9.1) h [0]
   .refine sr (mq ?_);refine aq (nt (aA ?_));refine bM (ip [4,5,36] ⟨rfl,rfl,rfl,trivial⟩) ?_;cases h;exact ra
def lg(k:Nat)(a0:(List Int))(a1:Int):Nat->Int->Option (Except Int Unit)
 |0,_=>none
 |n+1,y3=>
  if y3 < (a0.length:Int) then((aR a0 y3).bind λx5=>
  if x5=a1 then(some (.error y3)) else((ck (y3+1)).bind λx6=>
  lg k a0 a1 n x6)) else(some (.ok ()))
def uV(k:Nat)(a0:(List Int))(a1:Int):Option Int:=
 bE (α:=Unit) (lg k a0 a1 k 0) (some) λ_=>
 some (-1:Int)
theorem Ft(k:Nat)(a0:(List Int))(a1:Int)(r:Int)(h:uV k a0 a1=some r):
 dy Tryz.prog 64 [.rep Tl a0,I a1] [] (λ_:Unit=>(bD [I r],[])):=by
 unfold uV at h
 replace h:=be h
 refine dy.of 19 Tryz.func64 rfl Tryz.ntmps64 rfl λS w0=>?_
 refine sr ?_
 refine cq ?_
 refine nt ?_
 refine dk (Z:=Unit) (α:=Unit) (λz2 x1=>[]) (λz2 x1=>[]) (λe=>e=r) h (λe h=>Option.some.inj h) (λK hR h=>?_) (λz2 x1 h=>?_)
 .
  refine sr (cq (nt (ai ?_)));refine aG (λz4 y3=>[(0,.rep Tl a0),(1,I a1),(5,I y3)]) (λz4 y3=>[]) (lg k a0 a1) k () 0 (λ_=>rfl) h (SE.fin [] ⟨rfl,rfl,rfl,trivial⟩ rfl) (λn z4 y3 h=>?_);unfold lg at h;refine aj (sr ?_);iterate 2 refine mq ?_
  refine ol g7 ?_;refine jb (bA rfl) ?_;refine nt (ci h (λh=>?_) (λh=>?_))
  .refine sk (aj (ai (sr ?_)));iterate 2 refine mq ?_
   obtain⟨x5,j,h⟩:=aa h;refine jb (aW (t:=Ti) rfl g7 cF j) ?_;refine ja (av (t:=Ti) rfl cF rfl) ?_;refine mq ?_;refine jb (jg rfl) ?_;refine nt (ci h (λh=>?_) (λh=>?_))
   .refine sr (mq ?_);refine aq (nt (aA (br (bh (bo ?_)))));obtain rfl:=hR _ h;exact ra
   .refine bg (aL (tn (ab (mq ?_))));obtain⟨x6,c,h⟩:=aa h;refine jb (bp rfl c) ?_;refine aq (nl ?_);exact jz ((),x6) h []
  .refine xa ?_;exact jz ((),()) h []
 .
  refine sr (cq (nt (aA ?_)));cases h;exact ra
