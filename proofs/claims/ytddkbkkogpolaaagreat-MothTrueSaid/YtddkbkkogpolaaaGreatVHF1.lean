import Derived.Test.YtddkbkkogpolaaaGreatVHFacts
import Derived.Test.YtddkbkkogpolaaaGreatVHB6
open Nat
open List hiding mem_of_getElem?
open Array hiding mem_of_getElem? mk
set_option linter.unusedSimpArgs false
set_option linter.unusedVariables false
set_option maxRecDepth 4000
set_option maxHeartbeats 1000000
namespace Go.Proofs.YtddkbkkogpolaaaGreat
open K Go Go.Proofs
def il(k:Nat)(a0:bO):Option (Int×bO):=
 ((if a0.2.1 < (a0.1.length:Int) then((aR a0.1 a0.2.1).bind λx3=>
 some (IntKind.u64.wrap ((IntKind.u64.wrap ((IntKind.u64.wrap (a0.2.2 * 6364136223846793005))+1442695040888963407))+(IntKind.u64.wrap ((IntKind.u64.wrap x3) * 2862933555777941757))))) else(some (IntKind.u64.wrap ((IntKind.u64.wrap (a0.2.2 * 6364136223846793005))+1442695040888963407)))):Option (Int)).bind λx1=>
 (ck (a0.2.1+1)).bind λx4=>
 some (ip .u64 (sQ .u64 (IntKind.u64.wrap ((sQ .u64 x1 (ip .u64 x1 29)) * 2685821657736338717)) (ip .u64 (IntKind.u64.wrap ((sQ .u64 x1 (ip .u64 x1 29)) * 2685821657736338717)) 32)) 8,(a0.1,x4,x1))
theorem sN(k:Nat)(a0:bO)(c:Nat)(r:Int×bO)(h:il k a0=some r):
 dD Tryz.prog 60 [Pt c] [.obj c 71 (.agg (.pair (.rep Tl a0.1) (.pair (I a0.2.1) (.eq (.int .u64 a0.2.2)))))] (λ_:Unit=>(bM [.eq (.int .u64 r.1)],[.obj c 71 (.agg (.pair (.rep Tl r.2.1) (.pair (I r.2.2.1) (.eq (.int .u64 r.2.2.2)))))])):=by
 unfold il at h
 replace h:=bh h
 refine dD.of 67 Tryz.func60 rfl Tryz.ntmps60 rfl λS w0=>?_
 refine sr ?_
 refine cq ?_
 refine nt ?_
 refine sr ?_
 iterate 2 refine mq ?_
 refine ja (cR rfl) ?_
 refine fl sV ?_
 refine lo ES ?_
 refine jb (BS rfl) ?_
 refine jb (HW rfl) ?_
 refine ja (cR rfl) ?_
 refine fl sV ?_
 refine aJ rfl rfl (aE rfl ES rfl rfl rfl) ⟨rfl,rfl,trivial⟩ ?_
 refine nt ?_
 refine aM (Z:=Unit) (α:=Int) (λz2 x1=>[(0,Pt c)]) (λz2 x1=>[.obj c 71 (.agg (.pair (.rep Tl a0.1) (.pair (I a0.2.1) (.eq (.int .u64 x1)))))]) h (λK h=>?_) (λz2 x1 h=>?_)
 .
  refine aj (cV ?_);refine dm ?_;refine da (cR rfl) ?_;refine da (aH rfl ym) ?_;refine ea 0 (aC rfl cx nW rfl) ?_;refine dm ?_;refine da (cR rfl) ?_;refine da (aH rfl IQ) ?_;refine ea 0 (aC rfl gG nW rfl) ?_;refine da (rj rfl rfl ie) ?_;refine df dQ ?_;refine jb (bN rfl) ?_;refine nt (ci h (λh=>?_) (λh=>?_))
  .refine cV ?_;refine dm ?_;refine dm ?_;refine da (cR rfl) ?_;refine da (aH rfl sV) ?_;refine ea 0 (aC rfl ES nW rfl) ?_;refine dm ?_;refine da (cR rfl) ?_;refine da (aH rfl IQ) ?_;refine ea 0 (aC rfl gG nW rfl) ?_;refine dm ?_;refine da (cR rfl) ?_;refine da (aH rfl ym) ?_;refine ea 0 (aC rfl cx nW rfl) ?_;obtain⟨x3,j,h⟩:=aa h;refine db (aX (t:=Ti) rfl ie cx j) ?_;refine da (au (t:=Ti) rfl cx rfl) ?_;refine da (sq rfl U3 TP) ?_;refine db (BS rfl) ?_;refine db (HW rfl) ?_;refine df dQ ?_;refine ja (cR rfl) ?_;refine fl sV ?_;refine aJ rfl rfl (aE rfl ES rfl rfl rfl) ⟨rfl,rfl,trivial⟩ ?_;refine nl ?_;exact jz ((),IntKind.u64.wrap ((IntKind.u64.wrap ((IntKind.u64.wrap (a0.2.2 * 6364136223846793005))+1442695040888963407))+(IntKind.u64.wrap ((IntKind.u64.wrap x3) * 2862933555777941757)))) h [0]
  .refine bf (ap ?_);exact jz ((),IntKind.u64.wrap ((IntKind.u64.wrap (a0.2.2 * 6364136223846793005))+1442695040888963407)) h [0]
 .
  refine sr (mq ?_);refine ja (cR rfl) ?_;refine fl ym ?_;refine lo cx ?_;obtain⟨x4,e,h⟩:=aa h;refine jb (bp rfl e) ?_;refine ja (cR rfl) ?_;refine fl ym ?_;refine aJ rfl rfl (aE rfl cx rfl rfl rfl) ⟨rfl,rfl,trivial⟩ ?_;refine nt (aj (cV ?_));refine dm ?_;refine da (cR rfl) ?_;refine da (aH rfl sV) ?_;refine ea 0 (aC rfl ES nW rfl) ?_;refine dm ?_;refine da (cR rfl) ?_;refine da (aH rfl sV) ?_;refine ea 0 (aC rfl ES nW rfl) ?_;refine f9 rfl rfl rfl (uD rfl (by decide)) ⟨rfl,rfl,trivial⟩ ?_;refine df dQ ?_;refine jb (Oc rfl) ?_;refine aq (nt (sr ?_));refine mq ?_;refine jb (BS rfl) ?_;refine aq (nt (sr ?_));iterate 2 refine mq ?_
  refine cf rfl (uD rfl (by decide)) ⟨rfl,rfl,trivial⟩ ?_;refine jb (Oc rfl) ?_;refine cf rfl (uD rfl (by decide)) ⟨rfl,rfl,trivial⟩ ?_;refine aq (nt (ax ?_));cases h;exact aP () [_] 1 ⟨rfl,trivial⟩ rfl
def cC(k:Nat)(a0:bO)(a1:Int):Option (Int×bO):=
 if a1 < 1 then(some (0,(a0.1,a0.2.1,a0.2.2))) else((il k (a0.1,a0.2.1,a0.2.2)).bind λr1=>
 (ck (a1+1)).bind λx2=>
 (cP ((IntKind.u64.wrap x2)≠0)).bind λ_=>
 (ck (Int.tmod r1.1 (IntKind.u64.wrap x2))).bind λx4=>
 some (x4,(r1.2.1,r1.2.2.1,r1.2.2.2)))
theorem cL(k:Nat)(a0:bO)(c:Nat)(a1:Int)(r:Int×bO)(h:cC k a0 a1=some r):
 dD Tryz.prog 26 [Pt c,I a1] [.obj c 71 (.agg (.pair (.rep Tl a0.1) (.pair (I a0.2.1) (.eq (.int .u64 a0.2.2)))))] (λ_:Unit=>(bM [I r.1],[.obj c 71 (.agg (.pair (.rep Tl r.2.1) (.pair (I r.2.2.1) (.eq (.int .u64 r.2.2.2)))))])):=by
 unfold cC at h
 replace h:=bh h
 refine dD.of 14 Tryz.func26 rfl Tryz.ntmps26 rfl λS w0=>?_
 refine sr ?_
 refine cq ?_
 refine nt ?_
 refine aj ?_
 refine sr ?_
 refine mq ?_
 refine jb (bN rfl) ?_
 refine nt ?_
 refine ci h (λh=>?_) (λh=>?_)
 .
  refine sr (cq (nt (rx ?_)));cases h;exact aP () [_] 1 ⟨rfl,trivial⟩ rfl
 .
  refine sk (sr (mq ?_));obtain⟨r1,n,h⟩:=aa h;refine ka (ay [.tmp 7] rfl rfl UR rfl (sN k (a0.1,a0.2.1,a0.2.2) c r1 n)) ?_;refine mq ?_;obtain⟨x2,j,h⟩:=aa h;refine jb (bp rfl j) ?_;refine ja (sq rfl U3 TP) ?_;obtain⟨u3,l,h⟩:=aa h;refine jb (Rm rfl (am l)) ?_;obtain⟨x4,e,h⟩:=aa h;refine ja (zN rfl TP U3 e) ?_;refine aq (nt (ax ?_));cases h;exact aP () [_] 1 ⟨rfl,trivial⟩ rfl
def ew(k:Nat)(a0:bO)(a1:Int):Option (Bool×bO):=
 (ck (a1 - 1)).bind λx1=>
 (cC k (a0.1,a0.2.1,a0.2.2) x1).bind λr2=>
 some (decide (r2.1=0),(r2.2.1,r2.2.2.1,r2.2.2.2))
theorem hP(k:Nat)(a0:bO)(c:Nat)(a1:Int)(r:Bool×bO)(h:ew k a0 a1=some r):
 dD Tryz.prog 52 [Pt c,I a1] [.obj c 71 (.agg (.pair (.rep Tl a0.1) (.pair (I a0.2.1) (.eq (.int .u64 a0.2.2)))))] (λ_:Unit=>(bM [.eq (.bool r.1)],[.obj c 71 (.agg (.pair (.rep Tl r.2.1) (.pair (I r.2.2.1) (.eq (.int .u64 r.2.2.2)))))])):=by
 unfold ew at h
 replace h:=bh h
 refine dD.of 10 Tryz.func52 rfl Tryz.ntmps52 rfl λS w0=>?_
 refine sr ?_
 refine cq ?_
 refine nt ?_
 refine sr ?_
 iterate 2 refine mq ?_
 obtain⟨x1,e,h⟩:=aa h
 refine jb (eM rfl e) ?_
 obtain⟨r2,j,h⟩:=aa h
 have l:=cL k (a0.1,a0.2.1,a0.2.2) c x1 r2 j
 refine kb (ay [.tmp 5,.tmp 7] rfl rfl wb rfl l) ?_
 refine jb (gx rfl) ?_
 refine aq ?_
 refine nt ?_
 refine ax ?_
 cases h
 exact aP () [_] 1 ⟨rfl,trivial⟩ rfl
def im(k:Nat)(a0:bO)(a1:yu):Option (bq×bO):=
 (ck (a1.1 - 1)).bind λx3=>
 (cC k (a0.1,a0.2.1,a0.2.2) x3).bind λr4=>
 (cC k (r4.2.1,r4.2.2.1,r4.2.2.2) (a1.2.2.2.2.1.length:Int)).bind λr5=>
 (ew k (r5.2.1,r5.2.2.1,r5.2.2.2) 2).bind λr6=>
 some ((r4.1,r5.1,r6.1),(r6.2.1,r6.2.2.1,r6.2.2.2))
theorem sO(k:Nat)(a0:bO)(c:Nat)(a1:yu)(r:bq×bO)(h:im k a0 a1=some r):
 dD Tryz.prog 18 [Pt c,.rep Dt a1] [.obj c 71 (.agg (.pair (.rep Tl a0.1) (.pair (I a0.2.1) (.eq (.int .u64 a0.2.2)))))] (λ_:Unit=>(bM [.rep bz r.1],[.obj c 71 (.agg (.pair (.rep Tl r.2.1) (.pair (I r.2.2.1) (.eq (.int .u64 r.2.2.2)))))])):=by
 unfold im at h
 replace h:=bh h
 refine dD.of 18 Tryz.func18 rfl Tryz.ntmps18 rfl λS w0=>?_
 refine sr ?_
 refine bx λb1=>?_
 refine aW rfl rfl rfl (bb rfl Bn Jj) trivial λb2=>?_
 refine nt ?_
 refine aj ?_
 refine Gf [1,2,3,5,6,7,8,10,0,4,9,11,12,13] (by kernel_rfl) ?_
 refine bK rfl rfl rfl (aH rfl gr) ⟨rfl,trivial⟩ ?_
 refine gX 1 rfl rfl rfl rfl (aC rfl cx nW rfl) ⟨rfl,trivial⟩ ?_
 obtain⟨x3,E,h⟩:=aa h
 refine bK rfl rfl rfl (eM rfl E) ⟨rfl,rfl,trivial⟩ ?_
 refine bK rfl rfl rfl (aV rfl) ⟨rfl,trivial⟩ ?_
 refine bK rfl rfl rfl (aH rfl eO) ⟨rfl,trivial⟩ ?_
 refine gX 1 rfl rfl rfl rfl (aC rfl lR nW rfl) ⟨rfl,trivial⟩ ?_
 refine bK rfl rfl rfl (rj rfl rfl Bm) ⟨rfl,trivial⟩ ?_
 refine bK rfl rfl rfl (aV rfl) ⟨rfl,trivial⟩ ?_
 refine bK rfl rfl rfl (aV rfl) ⟨rfl,trivial⟩ ?_
 refine tl 9 [true,true,true,false,false,false,false,false,true] [9,14] [1] [.obj b1 26 (.rep Dt a1)] rfl (by kernel_rfl) (by kernel_rfl) (by kernel_rfl) dQ (λvs hv hB=>?_)
 obtain⟨w0,zz,rfl,D⟩:=av hv
 obtain⟨w1,qt,rfl,y⟩:=av D
 obtain⟨w2,pq,rfl,x⟩:=av y
 obtain⟨w3,mw,rfl,u⟩:=av x
 obtain⟨w4,mc,rfl,s⟩:=av u
 obtain⟨w5,gw,rfl,n⟩:=av s
 obtain⟨w6,Z,rfl,l⟩:=av n
 obtain⟨w7,Y,rfl,j⟩:=av l
 obtain⟨w8,X,rfl,e⟩:=av j
 obtain rfl:=pu e
 refine⟨[1,0,2],[.obj b2 47 (.agg (.pair (I 0) (.pair (I 0) (.eq (.bool false))))),.obj c 71 (.agg (.pair (.rep Tl a0.1) (.pair (I a0.2.1) (.eq (.int .u64 a0.2.2)))))],by kernel_rfl,by decide,?_⟩
 obtain⟨r4,M,h⟩:=aa h
 have U:=cL k (a0.1,a0.2.1,a0.2.2) c x3 r4 M
 refine rV 1 rfl ?_
 refine vt rfl rfl rfl rfl (ay [.tmp 5,.tmp 8] rfl rfl wb rfl U) ⟨rfl,rfl,trivial⟩ (by kernel_rfl) ?_
 obtain⟨r5,J,h⟩:=aa h
 have Q:=cL k (r4.2.1,r4.2.2.1,r4.2.2.2) c (a1.2.2.2.2.1.length:Int) r5 J
 refine vt rfl rfl rfl rfl (ay [.tmp 10,.tmp 13] rfl rfl wb rfl Q) ⟨rfl,rfl,trivial⟩ (by kernel_rfl) ?_
 refine JH (by kernel_rfl) ?_
 obtain⟨r6,F,h⟩:=aa h
 have O:=hP k (r5.2.1,r5.2.2.1,r5.2.2.2) c 2 r6 F
 refine fr 1 ?_
 refine kb (ay [.tmp 15,.const (.int .i64 (2))] rfl rfl MG rfl O) ?_
 refine jc (eh [(0,.tmp 9,_),(1,.tmp 14,_),(2,.tmp 16,_)] rfl Rb Bn Ov (jO ⟨rfl,rfl,rfl,trivial⟩) rfl) ?_
 refine fr 2 ?_
 refine aJ rfl rfl (aE rfl sb trivial rfl rfl) ⟨rfl,rfl,trivial⟩ ?_
 refine nt ?_
 refine ax ?_
 refine bF (fq (a:=.agg (.pair (I r4.1) (.pair (I r5.1) (.eq (.bool r6.1))))) (a':=.rep bz (r4.1,r5.1,r6.1)) (gY (.agg (.pair .int (.pair .int .bool))))) ?_
 refine bF (SE.fin (Γ':=[(4,_)]) [1,0,2] ⟨rfl,trivial⟩ rfl) ?_
 cases h
 exact aP () [.rep bz (r4.1,r5.1,r6.1)] 1 ⟨⟨_,_,_,_,_,rfl,(.tail _ (.head _)),sb,(t7),rfl⟩,trivial⟩ rfl
def ji(k:Nat)(a0:(List Int)):Option (List Int):=
 (cP (bW (length ([]:(List Int))+length a0))).bind λ_=>
 some (([]:(List Int))++a0)
theorem tP(k:Nat)(a0:(List Int))(r:(List Int))(h:ji k a0=some r):
 dD Tryz.prog 89 [.rep Tl a0] [] (λz:Value=>(bM [.eq z],[.sl z 3 Ti r])):=by
 unfold ji at h
 replace h:=bh h
 refine dD.of 6 Tryz.func89 rfl Tryz.ntmps89 rfl λS w0=>?_
 refine sr ?_
 refine cq ?_
 refine nt ?_
 refine sr ?_
 refine aW rfl rfl rfl (nn (t:=Ti) [] ([]:(List Int)) rfl rfl dL .nil rfl rfl) trivial λv1=>?_
 refine mq ?_
 obtain⟨u2,c,h⟩:=aa h
 refine eG rfl rfl rfl (cO rfl rfl dL (am c)) ⟨rfl,rfl,trivial⟩ λv3=>?_
 refine aq ?_
 refine nt ?_
 refine ax ?_
 cases h
 exact aP v3 [.eq v3] 1 ⟨rfl,trivial⟩ rfl
def dO(k:Nat)(a0:(List (List Int))):Nat->((List (List Int))×Int)->Option (List (List Int))
 |0,_=>none
 |n+1,y3=>
  if y3.2 < (a0.length:Int) then((aR a0 y3.2).bind λx5=>
  (ji k x5).bind λr6=>
  (cP (bW (length y3.1+length [r6]))).bind λ_=>
  (ck (y3.2+1)).bind λc=>
  dO k a0 n (y3.1++[r6],c)) else(some y3.1)
def io(k:Nat)(a0:(List (List Int))):Option (List (List Int)):=
 ((dO k a0 k (([]:(List (List Int))),0)):Option ((List (List Int)))).bind λx1=>
 some x1
theorem sP(k:Nat)(a0:(List (List Int)))(r:(List (List Int)))(h:io k a0=some r):
 dD Tryz.prog 53 [.rep (.slice Tl) a0] [] (λz:Value=>(bM [.eq z],[.sl z 22 Tl r])):=by
 unfold io at h
 replace h:=bh h
 refine dD.of 20 Tryz.func53 rfl Tryz.ntmps53 rfl λS w0=>?_
 refine sr ?_
 refine cq ?_
 refine nt ?_
 refine sr ?_
 refine cq ?_
 refine nt ?_
 refine aM (Z:=Value) (α:=(List (List Int))) (λz2 x1=>[(3,.eq z2)]) (λz2 x1=>[.sl z2 22 Tl x1]) h (λK h=>?_) (λz2 x1 h=>?_)
 .
  refine sr (cq (nt (ai ?_)));refine iO (SE.nil 22 Tl) ?_;refine aL (λz4 y3=>[(0,.rep (.slice Tl) a0),(3,.eq z4),(4,I y3.2)]) (λz4 y3=>[.sl z4 22 Tl y3.1]) (dO k a0) k (.slice none 0 0) (([]:(List (List Int))),0) (λ_=>rfl) h (SE.fin [0] ⟨rfl,rfl,rfl,trivial⟩ rfl) (λn z4 y3 h=>?_);unfold dO at h;refine aj (sr ?_);iterate 2 refine mq ?_
  refine ol ta ?_;refine jb (bN rfl) ?_;refine nt (ci h (λh=>?_) (λh=>?_))
  .refine sk (aj (ai (ab ?_)));iterate 3 refine mq ?_
   obtain⟨x5,j,h⟩:=aa h;refine jb (aX (t:=Tl) rfl ta gG j) ?_;refine ja (au (t:=Tl) rfl gG rfl) ?_;obtain⟨r6,s,h⟩:=aa h;refine aW rfl rfl rfl (ay [.tmp 15] rfl rfl UG rfl (tP k x5 r6 s)) ⟨rfl,trivial⟩ λv7=>?_;refine eF (jo [16] ⟨rfl,trivial⟩) ?_;refine ja (bj (t:=Tl) [(.tmp 16,_)] [r6] rfl rfl pM (.cons rfl .rep .nil) rfl rfl) ?_;obtain⟨u8,l,h⟩:=aa h;refine eG rfl rfl rfl (cO rfl rfl pM (am l)) ⟨rfl,rfl,trivial⟩ λv9=>?_;refine aq (aF (aO (tn (ab ?_))));refine mq ?_;obtain⟨e,c,h⟩:=aa h;refine jb (bp rfl c) ?_;refine aq (nl ?_);exact jz (v9,(y3.1++[r6],e)) h [0]
  .refine xa ?_;exact jz (z4,y3.1) h [0]
 .
  refine sr (mq ?_);refine aq (nt (ax ?_));cases h;exact aP z2 [.eq z2] 1 ⟨rfl,trivial⟩ rfl
def fJ(k:Nat)(a0:bO)(a1:Int)(a2:Int):Option (Int×bO):=
 (ck (a2 - a1)).bind λx1=>
 (cC k (a0.1,a0.2.1,a0.2.2) x1).bind λr2=>
 (ck (a1+r2.1)).bind λx3=>
 some (x3,(r2.2.1,r2.2.2.1,r2.2.2.2))
theorem jh(k:Nat)(a0:bO)(c:Nat)(a1:Int)(a2:Int)(r:Int×bO)(h:fJ k a0 a1 a2=some r):
 dD Tryz.prog 57 [Pt c,I a1,I a2] [.obj c 71 (.agg (.pair (.rep Tl a0.1) (.pair (I a0.2.1) (.eq (.int .u64 a0.2.2)))))] (λ_:Unit=>(bM [I r.1],[.obj c 71 (.agg (.pair (.rep Tl r.2.1) (.pair (I r.2.2.1) (.eq (.int .u64 r.2.2.2)))))])):=by
 unfold fJ at h
 replace h:=bh h
 refine dD.of 14 Tryz.func57 rfl Tryz.ntmps57 rfl λS w0=>?_
 refine sr ?_
 refine cq ?_
 refine nt ?_
 refine sr ?_
 iterate 4 refine mq ?_
 obtain⟨x1,j,h⟩:=aa h
 refine jb (eM rfl j) ?_
 obtain⟨r2,l,h⟩:=aa h
 have n:=cL k (a0.1,a0.2.1,a0.2.2) c x1 r2 l
 refine kb (ay [.tmp 8,.tmp 11] rfl rfl wb rfl n) ?_
 obtain⟨x3,e,h⟩:=aa h
 refine jb (bp rfl e) ?_
 refine aq ?_
 refine nt ?_
 refine ax ?_
 cases h
 exact aP () [_] 1 ⟨rfl,trivial⟩ rfl
def gU(k:Nat)(a0:bO)(a1:(List Int)):Option (Int×bO):=
 (ck ((a1.length:Int) - 1)).bind λx1=>
 (cC k (a0.1,a0.2.1,a0.2.2) x1).bind λr2=>
 (aR a1 r2.1).bind λx3=>
 some (x3,(r2.2.1,r2.2.2.1,r2.2.2.2))
theorem lF(k:Nat)(a0:bO)(c:Nat)(a1:(List Int))(r:Int×bO)(h:gU k a0 a1=some r):
 dD Tryz.prog 58 [Pt c,.rep Tl a1] [.obj c 71 (.agg (.pair (.rep Tl a0.1) (.pair (I a0.2.1) (.eq (.int .u64 a0.2.2)))))] (λ_:Unit=>(bM [I r.1],[.obj c 71 (.agg (.pair (.rep Tl r.2.1) (.pair (I r.2.2.1) (.eq (.int .u64 r.2.2.2)))))])):=by
 unfold gU at h
 replace h:=bh h
 refine dD.of 13 Tryz.func58 rfl Tryz.ntmps58 rfl λS w0=>?_
 refine sr ?_
 refine cq ?_
 refine nt ?_
 refine sr ?_
 iterate 3 refine mq ?_
 refine ol ie ?_
 obtain⟨x1,j,h⟩:=aa h
 refine jb (eM rfl j) ?_
 obtain⟨r2,l,h⟩:=aa h
 have n:=cL k (a0.1,a0.2.1,a0.2.2) c x1 r2 l
 refine kb (ay [.tmp 6,.tmp 9] rfl rfl wb rfl n) ?_
 obtain⟨x3,e,h⟩:=aa h
 refine jb (aX (t:=Ti) rfl ie cx e) ?_
 refine ja (au (t:=Ti) rfl cx rfl) ?_
 refine aq ?_
 refine nt ?_
 refine ax ?_
 cases h
 exact aP () [_] 1 ⟨rfl,trivial⟩ rfl
def d4(k:Nat)(a1:Int):Nat->((List Int)×Int×Int×(List Int)×Int)->Option ((List Int)×(List Int)×Int×Int)
 |0,_=>none
 |n+1,y3=>
  if y3.2.2.2.2 < a1 then((cC k (y3.1,y3.2.1,y3.2.2.1) y3.2.2.2.2).bind λr5=>
  (cP (bW (length y3.2.2.2.1+length [y3.2.2.2.2]))).bind λ_=>
  (aR (y3.2.2.2.1++[y3.2.2.2.2]) r5.1).bind λx8=>
  (aR (y3.2.2.2.1++[y3.2.2.2.2]) y3.2.2.2.2).bind λx9=>
  (aR (List.set (y3.2.2.2.1++[y3.2.2.2.2]) (Int.toNat y3.2.2.2.2) x8) r5.1).bind λe=>
  (ck (y3.2.2.2.2+1)).bind λc=>
  d4 k a1 n (r5.2.1,r5.2.2.1,r5.2.2.2,List.set (List.set (y3.2.2.2.1++[y3.2.2.2.2]) (Int.toNat y3.2.2.2.2) x8) (Int.toNat r5.1) y3.2.2.2.2,c)) else(some (y3.2.2.2.1,y3.1,y3.2.1,y3.2.2.1))
def gV(k:Nat)(a0:bO)(a1:Int):Option ((List Int)×bO):=
 ((d4 k a1 k (a0.1,a0.2.1,a0.2.2,([]:(List Int)),0)):Option ((List Int)×(List Int)×Int×Int)).bind λx1=>
 some (x1.1,(x1.2.1,x1.2.2.1,x1.2.2.2))
theorem rH(k:Nat)(a0:bO)(c:Nat)(a1:Int)(r:(List Int)×bO)(h:gV k a0 a1=some r):
 dD Tryz.prog 90 [Pt c,I a1] [.obj c 71 (.agg (.pair (.rep Tl a0.1) (.pair (I a0.2.1) (.eq (.int .u64 a0.2.2)))))] (λ_:Unit=>(bM [.rep Tl r.1],[.obj c 71 (.agg (.pair (.rep Tl r.2.1) (.pair (I r.2.2.1) (.eq (.int .u64 r.2.2.2)))))])):=by
 unfold gV at h
 replace h:=bh h
 refine dD.of 32 Tryz.func90 rfl Tryz.ntmps90 rfl λS w0=>?_
 refine sr ?_
 refine cq ?_
 refine nt ?_
 refine sr ?_
 refine cq ?_
 refine nt ?_
 refine aM (Z:=Value) (α:=(List Int)×(List Int)×Int×Int) (λz2 x1=>[(5,.eq z2)]) (λz2 x1=>[.sl z2 3 Ti x1.1,.obj c 71 (.agg (.pair (.rep Tl x1.2.1) (.pair (I x1.2.2.1) (.eq (.int .u64 x1.2.2.2)))))]) h (λK h=>?_) (λz2 x1 h=>?_)
 .
  refine sr (cq (nt (ai ?_)));refine iO (SE.nil 3 Ti) ?_;refine aL (λz4 y3=>[(0,Pt c),(1,I a1),(5,.eq z4),(6,I y3.2.2.2.2)]) (λz4 y3=>[.obj c 71 (.agg (.pair (.rep Tl y3.1) (.pair (I y3.2.1) (.eq (.int .u64 y3.2.2.1))))),.sl z4 3 Ti y3.2.2.2.1]) (d4 k a1) k (.slice none 0 0) (a0.1,a0.2.1,a0.2.2,([]:(List Int)),0) (λ_=>rfl) h (SE.fin [1,0] ⟨rfl,rfl,rfl,rfl,trivial⟩ rfl) (λn z4 y3 h=>?_);unfold d4 at h;refine aj (sr ?_);iterate 2 refine mq ?_
  refine jb (bN rfl) ?_;refine nt (ci h (λh=>?_) (λh=>?_))
  .refine sk (aj (ai (sr ?_)));iterate 2 refine mq ?_
   obtain⟨r5,y,h⟩:=aa h;refine kb (ay [.tmp 13,.tmp 14] rfl rfl wb rfl (cL k (y3.1,y3.2.1,y3.2.2.1) c y3.2.2.2.2 r5 y)) ?_;refine aq (nt (sr ?_));iterate 2 refine mq ?_
   refine ja (bj (t:=Ti) [(.tmp 17,_)] [y3.2.2.2.2] rfl rfl dL (.cons rfl .int .nil) rfl rfl) ?_;obtain⟨u6,x,h⟩:=aa h;refine fr 1 ?_;refine eG rfl rfl rfl (cO rfl rfl dL (am x)) ⟨rfl,rfl,trivial⟩ λv7=>?_;refine aq (nt (ab ?_));iterate 6 refine mq ?_
   obtain⟨x8,l,h⟩:=aa h;refine kb (cM (t:=Ti) rfl ie cx l) ?_;refine ka (g7 (i:=Int.toNat r5.1) (off:=0) rfl cx (λ_=>rfl) rfl (dP l).2.2 rfl) ?_;refine mq ?_;obtain⟨x9,j,h⟩:=aa h;refine kb (cM (t:=Ti) rfl ie cx j) ?_;refine aJ rfl rfl (gJ (i:=Int.toNat y3.2.2.2.2) rfl cx rfl (nB j) rfl .int rfl) ⟨rfl,rfl,trivial⟩ ?_;obtain⟨D,e,h⟩:=aa h;refine kb (cM (t:=Ti) rfl ie cx e) ?_;refine aJ rfl rfl (gJ (i:=Int.toNat r5.1) rfl cx rfl (nB e) rfl .int rfl) ⟨rfl,rfl,trivial⟩ ?_;refine aF (aO (tn (ab (mq ?_))));obtain⟨u,s,h⟩:=aa h;refine jb (bp rfl s) ?_;refine aq (nl ?_);exact jz (v7,(r5.2.1,r5.2.2.1,r5.2.2.2,List.set (List.set (y3.2.2.2.1++[y3.2.2.2.2]) (Int.toNat y3.2.2.2.2) x8) (Int.toNat r5.1) y3.2.2.2.2,u)) h [1,0]
  .refine xa ?_;exact jz (z4,(y3.2.2.2.1,y3.1,y3.2.1,y3.2.2.1)) h [1,0]
 .
  refine sr (mq ?_);refine aq (nt (ax ?_));refine bF (jo [4,5,31] ⟨rfl,rfl,rfl,trivial⟩) ?_;cases h;exact aP () [_] 1 ⟨rfl,trivial⟩ rfl
def l9(k:Nat)(a0:(List Int)):Option bO:=
 some (a0,0,1)
theorem uR(k:Nat)(a0:(List Int))(r:bO)(h:l9 k a0=some r):
 dD Tryz.prog 10 [.rep Tl a0] [] (λz:Nat=>(bM [Pt z],[.obj z 71 (.agg (.pair (.rep Tl r.1) (.pair (I r.2.1) (.eq (.int .u64 r.2.2)))))])):=by
 unfold l9 at h
 replace h:=bh h
 refine dD.of 6 Tryz.func10 rfl Tryz.ntmps10 rfl λS w0=>?_
 refine sr ?_
 refine cq ?_
 refine nt ?_
 refine sr ?_
 refine mq ?_
 refine jb (eh [(0,.tmp 3,_),(2,.const (.int .u64 (1)),_)] rfl Uf TZ SX (jO ⟨rfl,rfl,trivial⟩) rfl) ?_
 refine aW rfl rfl rfl (wN rfl trivial) ⟨rfl,trivial⟩ λb1=>?_
 refine aq ?_
 refine nt ?_
 refine ax ?_
 cases h
 exact aP b1 [Pt b1] 1 ⟨rfl,trivial⟩ rfl
def eW(k:Nat)(a0:Int)(a1:Int):Option Int:=
 (cP (0≤a1)).bind λ_=>
 some (DY .u8 a0 (oO .u8 1 a1))
theorem ix(k:Nat)(a0:Int)(a1:Int)(r:Int)(h:eW k a0 a1=some r):
 dD Tryz.prog 62 [.eq (.int .u8 a0),I a1] [] (λ_:Unit=>(bM [.eq (.int .u8 r)],[])):=by
 unfold eW at h
 replace h:=bh h
 refine dD.of 9 Tryz.func62 rfl Tryz.ntmps62 rfl λS w0=>?_
 refine sr ?_
 refine cq ?_
 refine nt ?_
 refine sr ?_
 iterate 2 refine mq ?_
 obtain⟨u1,c,h⟩:=aa h
 refine jb (Oe rfl (am c)) ?_
 refine jb (Ug rfl) ?_
 refine aq ?_
 refine nt ?_
 refine ax ?_
 cases h
 exact ra
def dN(k:Nat)(a0:Int)(a1:Int)(a2:Int):Option Bool:=
 ((if a1≤a0 then(some (decide (a0≤a2))) else(some false)):Option (Bool)).bind λx1=>
 some x1
theorem dS(k:Nat)(a0:Int)(a1:Int)(a2:Int)(r:Bool)(h:dN k a0 a1 a2=some r):
 dD Tryz.prog 71 [I a0,I a1,I a2] [] (λ_:Unit=>(bM [.eq (.bool r)],[])):=by
 unfold dN at h
 replace h:=bh h
 refine dD.of 15 Tryz.func71 rfl Tryz.ntmps71 rfl λS w0=>?_
 refine sr ?_
 refine cq ?_
 refine nt ?_
 refine aM (Z:=Unit) (α:=Bool) (λz2 x1=>[(6,.eq (.bool x1))]) (λz2 x1=>[]) h (λK h=>?_) (λz2 x1 h=>?_)
 .
  refine ab ?_;iterate 2 refine mq ?_
  refine jb (Dz rfl) ?_;refine mq ?_;refine cQ (s:=10) rfl (λhb=>?_) (λhb=>?_)
  .replace h:=eL (va hb) h;refine gm ?_;refine gm ?_;refine gb (Dz rfl) ?_;refine pt ?_;refine aq (nl ?_);exact jz ((),decide (a0≤a2)) h []
  .replace h:=cY (vb hb) h;iterate 3 refine gn ?_
   refine pf ?_;refine aq (nl ?_);exact jz ((),false) h []
 .
  refine ax ?_;cases h;exact ra
def gf(k:Nat)(a0:ae)(a1:bq):Option Int:=
 (((ck (a0.1 - 1)).bind λx5=>
 (dN k a1.1 0 x5).bind λr6=>
 if¬(r6=true) then(some true) else((dN k a1.2.1 0 (a0.2.2.2.2.1.length:Int)).bind λr7=>
 some (!r7))):Option (Bool)).bind λx3=>
 if x3=true then(some 3) else(some 0)
theorem qA(k:Nat)(a0:ae)(a1:bq)(r:Int)(h:gf k a0 a1=some r):
 dD Tryz.prog 54 [.rep an a0,.rep bz a1] [] (λ_:Unit=>(bM [I r],[])):=by
 unfold gf at h
 replace h:=bh h
 refine dD.of 21 Tryz.func54 rfl Tryz.ntmps54 rfl λS w0=>?_
 refine sr ?_
 refine bx λb1=>?_
 refine bx λb2=>?_
 refine cq ?_
 refine nt ?_
 refine aj ?_
 refine aM (Z:=Unit) (α:=Bool) (λz4 x3=>[(20,.eq (.bool x3))]) (λz4 x3=>[]) h (λK h=>?_) (λz4 x3 h=>?_)
 .
  refine ab (fl CL ?_);refine lo cx ?_;refine fl gr ?_;refine fr 1 ?_;refine lo cx ?_;obtain⟨x5,c,h⟩:=aa h;refine jb (eM rfl c) ?_;obtain⟨r6,j,h⟩:=aa h;refine jc (ay [.tmp 6,.const (.int .i64 (0)),.tmp 9] rfl rfl yt rfl (dS k a1.1 0 x5 r6 j)) ?_;refine ja (ic rfl) ?_;refine mq ?_;refine cQ (s:=12) rfl (λhb=>?_) (λhb=>?_)
  .replace h:=eL (zO hb) h;iterate 7 refine gn ?_
   refine pt (nl ?_);exact jz ((),true) h []
  .replace h:=cY (tu hb) h;refine ga (aH rfl CJ) ?_;refine fr 1 ?_;refine nJ rfl rfl rfl rfl rfl rfl (aC rfl cx nW rfl) ⟨rfl,trivial⟩ ?_;refine ga (aH rfl eO) ?_;refine fr 1 ?_;refine nJ rfl rfl rfl rfl rfl rfl (aC rfl lR nW rfl) ⟨rfl,trivial⟩ ?_;refine ga (rj rfl rfl Bm) ?_;obtain⟨r7,e,h⟩:=aa h;refine gc (ay [.tmp 14,.const (.int .i64 (0)),.tmp 17] rfl rfl yt rfl (dS k a1.2.1 0 (a0.2.2.2.2.1.length:Int) r7 e)) ?_;refine ga (ic rfl) ?_;refine pf (nl ?_);exact jz ((), !r7) h []
 .
  refine cv h (λh=>?_) (λh=>?_)
  .refine sr (cq (nt (rx ?_)));cases h;exact ra
  .refine sk (sr (cq (nt (ax ?_))));cases h;exact ra
def eX(k:Nat)(a0:Int)(a1:Int):Option Bool:=
 (cP (0≤a1)).bind λ_=>
 some (decide ((qG .u8 (ip .u8 a0 a1) 1)=1))
theorem gQ(k:Nat)(a0:Int)(a1:Int)(r:Bool)(h:eX k a0 a1=some r):
 dD Tryz.prog 75 [.eq (.int .u8 a0),I a1] [] (λ_:Unit=>(bM [.eq (.bool r)],[])):=by
 unfold eX at h
 replace h:=bh h
 refine dD.of 10 Tryz.func75 rfl Tryz.ntmps75 rfl λS w0=>?_
 refine sr ?_
 refine cq ?_
 refine nt ?_
 refine sr ?_
 iterate 2 refine mq ?_
 obtain⟨u1,c,h⟩:=aa h
 refine jb (uD rfl (am c)) ?_
 refine jb (Rq rfl) ?_
 refine jb (gx rfl) ?_
 refine aq ?_
 refine nt ?_
 refine ax ?_
 cases h
 exact ra
def dc(k:Nat)(a0:ae)(x8:(List Int)):Nat->(Int×Int)->Option (Except Int Int)
 |0,_=>none
 |n+1,y9=>
  if y9.2 < (x8.length:Int) then((aR x8 y9.2).bind λc=>
  (ck (a0.1 - 1)).bind λh=>
  (dN k c 0 h).bind λr=>
  if¬(r=true) then(some (.error 3)) else((eX k y9.1 c).bind λl=>
  if l=true then(some (.error 4)) else((eW k y9.1 c).bind λj=>
  (ck (y9.2+1)).bind λe=>
  dc k a0 x8 n (j,e)))) else(some (.ok y9.1))
def de(k:Nat)(a0:ae)(a1:(List (List Int))):Nat->(Int×Int)->Option (Except Int Unit)
 |0,_=>none
 |n+1,y4=>
  if y4.2 < (a1.length:Int) then(bE (α:=Int) ((aR a1 y4.2).bind λx8=>
  dc k a0 x8 k (y4.1,0)) (λe=>some (.error e)) λx6=>
  (ck (y4.2+1)).bind λc=>
  de k a0 a1 n (x6,c)) else(some (.ok ()))
def jf(k:Nat)(a0:ae)(a1:(List (List Int))):Option Int:=
 if 3 < (a1.length:Int) then(some 6) else(bE (α:=Unit) (de k a0 a1 k (0,0)) (some) λ_=>
 some 0)
theorem tL(k:Nat)(a0:ae)(a1:(List (List Int)))(r:Int)(h:jf k a0 a1=some r):
 dD Tryz.prog 101 [.rep an a0,.rep (.slice Tl) a1] [] (λ_:Unit=>(bM [I r],[])):=by
 unfold jf at h
 replace h:=bh h
 refine dD.of 39 Tryz.func101 rfl Tryz.ntmps101 rfl λS w0=>?_
 refine sr ?_
 refine bx λb1=>?_
 refine cq ?_
 refine nt ?_
 refine aj ?_
 refine sr ?_
 refine mq ?_
 refine ol ta ?_
 refine jb (kB rfl) ?_
 refine nt ?_
 refine ci h (λh=>?_) (λh=>?_)
 .
  refine sr (cq (nt (rx ?_)));cases h;exact ra
 .
  refine sk (sr (cq (nt ?_)));refine dK (Z:=Unit) (α:=Unit) (λz3 x2=>[]) (λz3 x2=>[]) (λe=>e=r) h (λe h=>Option.some.inj h) (λK hR h=>?_) (λz3 x2 h=>?_)
  .refine sr (mq ?_);refine ol ta ?_;refine eH rfl ?_;refine nt (ai (aL (λz5 y4=>[(2,Pt b1),(5,.eq (.int .u8 y4.1)),(13,.rep (.slice Tl) a1),(14,I (a1.length:Int)),(15,I y4.2)]) (λz5 y4=>[.obj b1 26 (.rep an a0)]) (de k a0 a1) k () (0,0) (λ_=>rfl) h (SE.fin [0] ⟨rfl,rfl,rfl,rfl,rfl,trivial⟩ rfl) (λn z5 y4 h=>?_)));unfold de at h;refine sr (jb (bN rfl) ?_);refine nt (aj (ci h (λh=>?_) (λh=>?_)))
   .refine sk (dK (Z:=Unit) (α:=Int) (λz7 x6=>[(2,Pt b1),(5,.eq (.int .u8 x6)),(13,.rep (.slice Tl) a1),(14,I (a1.length:Int)),(15,I y4.2)]) (λz7 x6=>[.obj b1 26 (.rep an a0)]) (λe=>e=r) h (λe h=>hR e h) (λK hR h=>?_) (λz7 x6 h=>?_))
    .refine ai (sr ?_);obtain⟨x8,X,h⟩:=aa h;refine jb (aX (t:=Tl) rfl ta gG X) ?_;refine ja (au (t:=Tl) rfl gG rfl) ?_;refine aq (nt (sr ?_));refine mq ?_;refine ol ie ?_;refine eH rfl ?_;refine nt (ai (aL (λj y9=>[(2,Pt b1),(5,.eq (.int .u8 y9.1)),(13,.rep (.slice Tl) a1),(14,I (a1.length:Int)),(15,I y4.2),(19,.rep Tl x8),(20,I (x8.length:Int)),(21,I y9.2)]) (λj y9=>[.obj b1 26 (.rep an a0)]) (dc k a0 x8) k () (y4.1,0) (λ_=>rfl) h (SE.fin [0] ⟨rfl,rfl,rfl,rfl,rfl,rfl,rfl,rfl,trivial⟩ rfl) (λn j y9 h=>?_)));unfold dc at h;refine sr (jb (bN rfl) ?_);refine nt (aj (ci h (λh=>?_) (λh=>?_)))
     .refine sk (aj (ai (sr ?_)));obtain⟨c,y,h⟩:=aa h;refine jb (aX (t:=Ti) rfl ie cx y) ?_;refine ja (au (t:=Ti) rfl cx rfl) ?_;refine aq (nt (aj (sr ?_)));refine mq ?_;refine fl gr ?_;refine lo cx ?_;obtain⟨O,x,h⟩:=aa h;refine jb (eM rfl x) ?_;obtain⟨U,F,h⟩:=aa h;refine jc (ay [.tmp 25,.const (.int .i64 (0)),.tmp 28] rfl rfl yt rfl (dS k c 0 O U F)) ?_;refine ja (ic rfl) ?_;refine nt (cw h (λh=>?_) (λh=>?_))
      .refine sr (cq (nt (rx (br (ba (br (ba (be ?_))))))));obtain rfl:=hR _ h;exact ra
      .refine sk (aj (sr ?_));iterate 2 refine mq ?_
       obtain⟨Q,E,h⟩:=aa h;refine jb (ay [.tmp 31,.tmp 32] rfl rfl IX rfl (gQ k y9.1 c Q E)) ?_;refine nt (cv h (λh=>?_) (λh=>?_))
       .refine sr (cq (nt (rx (br (ba (br (ba (be ?_))))))));obtain rfl:=hR _ h;exact ra
       .refine sk (ab ?_);iterate 2 refine mq ?_
        obtain⟨l,D,h⟩:=aa h;refine jb (ay [.tmp 34,.tmp 35] rfl rfl MD rfl (ix k y9.1 c l D)) ?_;refine aq (aF (aO (tn (ab ?_))));obtain⟨M,u,h⟩:=aa h;refine jb (bp rfl u) ?_;refine mq (nl ?_);exact jz ((),(l,M)) h [0]
     .refine d5 (bv (bv (cu (bn ?_))));exact jz ((),y9.1) h [0]
    .refine ab ?_;obtain⟨J,s,h⟩:=aa h;refine jb (bp rfl s) ?_;refine mq (nl ?_);exact jz ((),(x6,J)) h [0]
   .refine xa ?_;exact jz ((),()) h []
  .refine sr (cq (nt (ax ?_)));cases h;exact ra
def ff(k:Nat)(a0:ae):Nat->Int->Option (Except Int Unit)
 |0,_=>none
 |n+1,c=>
  if c < (a0.2.2.2.2.1.length:Int) then((aR a0.2.2.2.2.1 c).bind λj=>
  (jf k a0 j).bind λe=>
  if¬(e=0) then(some (.error e)) else((ck (c+1)).bind λh=>
  ff k a0 n h)) else(some (.ok ()))
def fe(k:Nat)(a0:ae):Nat->Int->Option (Except Int Unit)
 |0,_=>none
 |n+1,c=>
  if c < (a0.2.2.2.2.2.length:Int) then((aR a0.2.2.2.2.2 c).bind λj=>
  (gf k a0 j).bind λe=>
  if¬(e=0) then(some (.error e)) else((ck (c+1)).bind λh=>
  fe k a0 n h)) else(some (.ok ()))
def mX(k:Nat)(a0:ae):Option Int:=
 (((dN k a0.1 1 5).bind λr4=>
 if¬(r4=true) then(some true) else((dN k a0.2.1 0 3).bind λr5=>
 if¬(r5=true) then(some true) else((dN k a0.2.2.1 0 3).bind λr6=>
 if¬(r6=true) then(some true) else((dN k a0.2.2.2.1 1 3).bind λr7=>
 some (!r7))))):Option (Bool)).bind λx2=>
 if x2=true then(some 1) else(if(a0.2.2.2.2.1.length:Int) < 1 then(some 7) else(if 6 < (a0.2.2.2.2.1.length:Int) then(some 6) else(bE (α:=Unit) (ff k a0 k 0) (some) λ_=>
 if 8 < (a0.2.2.2.2.2.length:Int) then(some 6) else(bE (α:=Unit) (fe k a0 k 0) (some) λ_=>
 some 0))))
theorem xZ(k:Nat)(a0:ae)(r:Int)(h:mX k a0=some r):
 dD Tryz.prog 70 [.rep an a0] [] (λ_:Unit=>(bM [I r],[])):=by
 unfold mX at h
 replace h:=bh h
 refine dD.of 73 Tryz.func70 rfl Tryz.ntmps70 rfl λS w0=>?_
 refine sr ?_
 refine bx λb1=>?_
 refine cq ?_
 refine nt ?_
 refine aj ?_
 refine aM (Z:=Unit) (α:=Bool) (λz3 x2=>[(1,Pt b1),(31,.eq (.bool x2))]) (λz3 x2=>[.obj b1 26 (.rep an a0)]) h (λK h=>?_) (λz3 x2 h=>?_)
 .
  refine ab (fl gr ?_);refine lo cx ?_;obtain⟨r4,zz,h⟩:=aa h;refine jc (ay [.tmp 11,.const (.int .i64 (1)),.const (.int .i64 (5))] rfl rfl yt rfl (dS k a0.1 1 5 r4 zz)) ?_;refine ja (ic rfl) ?_;refine mq ?_;refine cQ (s:=14) rfl (λhb=>?_) (λhb=>?_)
  .replace h:=eL (zO hb) h;iterate 4 refine gn ?_
   refine pt ?_;refine mq ?_;iterate 4 refine gn ?_
   refine pt ?_;refine mq ?_;iterate 4 refine gn ?_
   refine pt (nl ?_);exact jz ((),true) h [0]
  .replace h:=cY (tu hb) h;refine ga (aH rfl CM) ?_;refine nJ rfl rfl rfl rfl rfl rfl (aC rfl cx nW rfl) ⟨rfl,trivial⟩ ?_;obtain⟨r5,qt,h⟩:=aa h;refine gc (ay [.tmp 16,.const (.int .i64 (0)),.const (.int .i64 (3))] rfl rfl yt rfl (dS k a0.2.1 0 3 r5 qt)) ?_;refine ga (ic rfl) ?_;refine pf ?_;refine mq ?_;refine cQ (s:=20) rfl (λhb=>?_) (λhb=>?_)
   .replace h:=eL (zO hb) h;iterate 4 refine gn ?_
    refine pt ?_;refine mq ?_;iterate 4 refine gn ?_
    refine pt (nl ?_);exact jz ((),true) h [0]
   .replace h:=cY (tu hb) h;refine ga (aH rfl yn) ?_;refine nJ rfl rfl rfl rfl rfl rfl (aC rfl cx nW rfl) ⟨rfl,trivial⟩ ?_;obtain⟨r6,pq,h⟩:=aa h;refine gc (ay [.tmp 22,.const (.int .i64 (0)),.const (.int .i64 (3))] rfl rfl yt rfl (dS k a0.2.2.1 0 3 r6 pq)) ?_;refine ga (ic rfl) ?_;refine pf ?_;refine mq ?_;refine cQ (s:=26) rfl (λhb=>?_) (λhb=>?_)
    .replace h:=eL (zO hb) h;iterate 4 refine gn ?_
     refine pt (nl ?_);exact jz ((),true) h [0]
    .replace h:=cY (tu hb) h;refine ga (aH rfl IS) ?_;refine nJ rfl rfl rfl rfl rfl rfl (aC rfl cx nW rfl) ⟨rfl,trivial⟩ ?_;obtain⟨r7,mw,h⟩:=aa h;refine gc (ay [.tmp 28,.const (.int .i64 (1)),.const (.int .i64 (3))] rfl rfl yt rfl (dS k a0.2.2.2.1 1 3 r7 mw)) ?_;refine ga (ic rfl) ?_;refine pf (nl ?_);exact jz ((), !r7) h [0]
 .
  refine cv h (λh=>?_) (λh=>?_)
  .refine sr (cq (nt (rx ?_)));cases h;exact ra
  .refine sk (aj (sr (fl eO ?_)));refine lo lR ?_;refine ol Bm ?_;refine aq (nt (ai (sr ?_)));refine mq ?_;refine jb (bN rfl) ?_;refine aq (nt ?_);refine ci h (λh=>?_) (λh=>?_)
   .refine sr (cq (nt (ax (ba (be ?_)))));cases h;exact ra
   .refine sr (mq ?_);refine jb (kB rfl) ?_;refine aq (nt ?_);refine ci h (λh=>?_) (λh=>?_)
    .refine sr (cq (nt (ax (ba (be ?_)))));cases h;exact ra
    .refine bf (aO (tn (dK (Z:=Unit) (α:=Unit) (λz9 x8=>[(1,Pt b1)]) (λz9 x8=>[.obj b1 26 (.rep an a0)]) (λe=>e=r) h (λe h=>Option.some.inj h) (λK hR h=>?_) (λz9 x8 h=>?_))))
     .refine sr (fl eO ?_);refine lo lR ?_;refine ol Bm ?_;refine eH rfl ?_;refine nt (ai (aL (λx j=>[(1,Pt b1),(42,.rep (.slice (.slice Tl)) a0.2.2.2.2.1),(43,I (a0.2.2.2.2.1.length:Int)),(44,I j)]) (λx j=>[.obj b1 26 (.rep an a0)]) (ff k a0) k () 0 (λ_=>rfl) h (SE.fin [0] ⟨rfl,rfl,rfl,rfl,trivial⟩ rfl) (λn x j h=>?_)));unfold ff at h;refine sr (jb (bN rfl) ?_);refine nt (aj (ci h (λh=>?_) (λh=>?_)))
      .refine sk (aj (ai (sr ?_)));obtain⟨Y,J,h⟩:=aa h;refine jb (aX (t:=(.slice Tl)) rfl Bm zr J) ?_;refine ja (au (t:=(.slice Tl)) rfl zr rfl) ?_;refine aq (nt (sr ?_));refine lo gC ?_;refine mq ?_;obtain⟨mc,O,h⟩:=aa h;refine jb (ay [.tmp 48,.tmp 49] rfl rfl SS rfl (tL k a0 Y mc O)) ?_;refine aq (nt (sr ?_));refine mq ?_;refine jb (dZ rfl) ?_;refine nt (cn h (λh=>?_) (λh=>?_))
       .refine sr (mq ?_);refine aq (nt (ax (br (ba (be ?_)))));obtain rfl:=hR _ h;exact ra
       .refine bf (aO (tn (ab ?_)));obtain⟨X,F,h⟩:=aa h;refine jb (bp rfl F) ?_;refine mq (nl ?_);exact jz ((),X) h [0]
      .refine xa ?_;exact jz ((),()) h [0]
     .refine aj (sr (fl sW ?_));refine lo EU ?_;refine ol QO ?_;refine jb (kB rfl) ?_;refine nt (ci h (λh=>?_) (λh=>?_))
      .refine sr (cq (nt (rx ?_)));cases h;exact ra
      .refine sk (dK (Z:=Unit) (α:=Unit) (λu y=>[]) (λu y=>[]) (λe=>e=r) h (λe h=>Option.some.inj h) (λK hR h=>?_) (λu y h=>?_))
       .refine sr (fl sW ?_);refine lo EU ?_;refine ol QO ?_;refine eH rfl ?_;refine nt (ai (aL (λl c=>[(1,Pt b1),(60,Rs bz a0.2.2.2.2.2),(61,I (a0.2.2.2.2.2.length:Int)),(62,I c)]) (λl c=>[.obj b1 26 (.rep an a0)]) (fe k a0) k () 0 (λ_=>rfl) h (SE.fin [0] ⟨rfl,rfl,rfl,rfl,trivial⟩ rfl) (λn l c h=>?_)));unfold fe at h;refine sr (jb (bN rfl) ?_);refine nt (aj (ci h (λh=>?_) (λh=>?_)))
        .refine sk (aj (ai (sr ?_)));obtain⟨U,E,h⟩:=aa h;refine jb (aX (t:=bz) rfl QO sb E) ?_;refine ja (au (t:=bz) rfl sb rfl) ?_;refine aW rfl rfl rfl (bb rfl Bn Jj) trivial λzM=>?_;refine aJ rfl rfl (aE rfl sb rfl rfl rfl) ⟨rfl,rfl,trivial⟩ ?_;refine nt (sr (fr 1 ?_));refine lo gC ?_;refine fr 1 ?_;refine lo sb ?_;obtain⟨gw,M,h⟩:=aa h;refine jb (ay [.tmp 66,.tmp 67] rfl rfl UT rfl (qA k a0 U gw M)) ?_;refine aq (nt (sr ?_));refine mq ?_;refine jb (dZ rfl) ?_;refine nt (cn h (λh=>?_) (λh=>?_))
         .refine sr (mq ?_);refine aq (nt (ax (br (ba (be ?_)))));obtain rfl:=hR _ h;exact ra
         .refine bf (aO (tn (ab ?_)));obtain⟨Q,D,h⟩:=aa h;refine jb (bp rfl D) ?_;refine mq (nl ?_);exact jz ((),Q) h [1]
        .refine xa ?_;exact jz ((),()) h []
       .refine sr (cq (nt (ax ?_)));cases h;exact ra
def cH(k:Nat)(a0:ae)(a1:Int):Nat->((List Int)×Int)->Option (List Int)
 |0,_=>none
 |n+1,y5=>
  if y5.2 < 5 then((((cP (0≤y5.2/\y5.2 < 5)).bind λ_=>
  (eX k a1 y5.2).bind λe=>
  if e=true then((cP (0≤y5.2/\y5.2 < 5)).bind λ_=>
  some (List.set (List.set y5.1 (Int.toNat y5.2) (-1:Int)) (Int.toNat y5.2) a0.2.1)) else(some (List.set y5.1 (Int.toNat y5.2) (-1:Int)))):Option ((List Int))).bind λx7=>
  (ck (y5.2+1)).bind λc=>
  cH k a0 a1 n (x7,c)) else(some y5.1)
def eS(k:Nat)(a0:ae)(a1:Int):Option (List Int):=
 ((cH k a0 a1 k ([0,0,0,0,0],0)):Option ((List Int))).bind λx3=>
 some x3
theorem qw{M:Md Tryz.prog}{bm:Nat}{c0 c1 c2 c3 c4 c5:Value}(hK:Kn M bm 0 [c0,c1,c2,c3,c4,c5])(k:Nat)(a0:ae)(a1:Int)(r:(List Int))(h:eS k a0 a1=some r):
 bR M 78 [.rep (.mo (Pv bm) [c0,c1,c2,c3,c4,c5] an) a0,.eq (.int .u8 a1)] [] (λ_:Unit=>(bM [.rep Tr r],[])):=by
 unfold eS at h
 replace h:=bh h
 refine bR.of 24 Tryz.func78 rfl Tryz.ntmps78 rfl λS w0=>?_
 refine sr ?_
 refine aW rfl rfl rfl (bb rfl J8 Na) trivial λb1=>?_
 refine nt ?_
 refine sr ?_
 refine aW rfl rfl rfl (bb rfl J8 Na) trivial λb2=>?_
 refine nt ?_
 refine aM (Z:=Unit) (α:=(List Int)) (λz4 x3=>[(4,Pt b1),(5,Pt b2)]) (λz4 x3=>[.obj b1 80 (.rep Tr [0,0,0,0,0]),.obj b2 80 (.rep Tr x3)]) h (λK h=>?_) (λz4 x3 h=>?_)
 .
  refine sr (eH rfl ?_);refine nt (ai (aL (λz6 y5=>[(0,.rep (.mo (Pv bm) [c0,c1,c2,c3,c4,c5] an) a0),(1,.eq (.int .u8 a1)),(4,Pt b1),(5,Pt b2),(7,I y5.2)]) (λz6 y5=>[.obj b1 80 (.rep Tr [0,0,0,0,0]),.obj b2 80 (.rep Tr y5.1)]) (cH k a0 a1) k () ([0,0,0,0,0],0) (λ_=>rfl) h (SE.fin [1,0] ⟨rfl,rfl,rfl,rfl,rfl,trivial⟩ rfl) (λn z6 y5 h=>?_)));unfold cH at h;refine sr (jb (bN rfl) ?_);refine nt (aj (ci h (λh=>?_) (λh=>?_)))
  .refine sk (aM (Z:=Unit) (α:=(List Int)) (λz8 x7=>[(0,.rep (.mo (Pv bm) [c0,c1,c2,c3,c4,c5] an) a0),(1,.eq (.int .u8 a1)),(4,Pt b1),(5,Pt b2),(7,I y5.2)]) (λz8 x7=>[.obj b1 80 (.rep Tr [0,0,0,0,0]),.obj b2 80 (.rep Tr x7)]) h (λK h=>?_) (λz8 x7 h=>?_))
   .refine ai (sr (mq ?_));refine aq (nt (sr ?_));refine mq ?_;obtain⟨u9,e,h⟩:=aa h;refine jb (dW rfl Bl cx (am e).1 (am e).2) ?_;refine fr 1 ?_;refine aJ rfl rfl (gK (t:=Ti) (off:=0) (i:=y5.2) (N:=5) rfl cx .int rfl rfl rfl rfl (am e).1 (am e).2 rfl) ⟨rfl,rfl,trivial⟩ ?_;refine nt (sr ?_);iterate 2 refine mq ?_
    obtain⟨u,l,h⟩:=aa h;refine jb (ay [.tmp 12,.tmp 13] rfl rfl IX rfl (gQ k a1 y5.2 u l)) ?_;refine nt (cv h (λh=>?_) (λh=>?_))
    .refine ab ?_;iterate 2 refine mq ?_
     refine ja (ly rfl) ?_;refine ja (gP rfl ia) ?_;refine ja (iF 1 false rfl CM rfl rfl) ?_;refine ja (jv (t:=Ti) rfl cx (hK.sub 1 1 rfl (le_of_ble_eq_true rfl)) rfl rfl) ?_;obtain⟨x,c,h⟩:=aa h;refine jb (dW rfl Bl cx (am c).1 (am c).2) ?_;refine aJ rfl rfl (gK (t:=Ti) (off:=0) (i:=y5.2) (N:=5) rfl cx .int rfl rfl rfl rfl (am c).1 (am c).2 rfl) ⟨rfl,rfl,trivial⟩ ?_;refine aF (bn ?_);exact jz ((),List.set (List.set y5.1 (Int.toNat y5.2) (-1:Int)) (Int.toNat y5.2) a0.2.1) h [1,0]
    .refine bf (bn ?_);exact jz ((),List.set y5.1 (Int.toNat y5.2) (-1:Int)) h [1,0]
   .refine ab ?_;obtain⟨s,j,h⟩:=aa h;refine jb (bp rfl j) ?_;refine mq (nl ?_);exact jz ((),(x7,s)) h [0,1]
  .refine xa ?_;exact jz ((),y5.1) h [0,1]
 .
  refine sr (fr 1 ?_);refine lo iT ?_;refine fr 1 ?_;refine aJ rfl rfl (aE rfl iT rfl rfl rfl) ⟨rfl,rfl,trivial⟩ ?_;refine nt (ax ?_);obtain rfl:=Option.some.inj h;exact aP () [.rep Tr x3] 0 ⟨⟨_,_,_,_,_,rfl,(.head _),iT,(t7),rfl⟩,trivial⟩ rfl
def dn(k:Nat)(a0:(List Int))(a1:Int):Nat->Int->Option (Except Int Unit)
 |0,_=>none
 |n+1,y3=>
  if y3 < (a0.length:Int) then((aR a0 y3).bind λx5=>
  if a1=x5 then(some (.error y3)) else((ck (y3+1)).bind λx6=>
  dn k a0 a1 n x6)) else(some (.ok ()))
def gi(k:Nat)(a0:(List Int))(a1:Int):Option Int:=
 bE (α:=Unit) (dn k a0 a1 k 0) (some) λ_=>
 some (-1:Int)
theorem mK(k:Nat)(a0:(List Int))(a1:Int)(r:Int)(h:gi k a0 a1=some r):
 dD Tryz.prog 82 [.rep Tl a0,I a1] [] (λ_:Unit=>(bM [I r],[])):=by
 unfold gi at h
 replace h:=bh h
 refine dD.of 19 Tryz.func82 rfl Tryz.ntmps82 rfl λS w0=>?_
 refine sr ?_
 refine cq ?_
 refine nt ?_
 refine dK (Z:=Unit) (α:=Unit) (λz2 x1=>[]) (λz2 x1=>[]) (λe=>e=r) h (λe h=>Option.some.inj h) (λK hR h=>?_) (λz2 x1 h=>?_)
 .
  refine sr (mq ?_);refine ol ie ?_;refine eH rfl ?_;refine nt (ai (aL (λz4 y3=>[(0,.rep Tl a0),(1,I a1),(7,I (a0.length:Int)),(8,I y3)]) (λz4 y3=>[]) (dn k a0 a1) k () 0 (λ_=>rfl) h (SE.fin [] ⟨rfl,rfl,rfl,rfl,trivial⟩ rfl) (λn z4 y3 h=>?_)));unfold dn at h;refine sr (jb (bN rfl) ?_);refine nt (aj (ci h (λh=>?_) (λh=>?_)))
  .refine sk (aj (ai (sr (mq ?_))));refine aq (nt (sr ?_));iterate 3 refine mq ?_
   obtain⟨x5,j,h⟩:=aa h;refine jb (aX (t:=Ti) rfl ie cx j) ?_;refine ja (au (t:=Ti) rfl cx rfl) ?_;refine jb (gx rfl) ?_;refine nt (ci h (λh=>?_) (λh=>?_))
   .refine sr (mq ?_);refine aq (nt (ax (br (ba (be ?_)))));obtain rfl:=hR _ h;exact ra
   .refine bf (aO (tn (ab ?_)));obtain⟨x6,c,h⟩:=aa h;refine jb (bp rfl c) ?_;refine mq (nl ?_);exact jz ((),x6) h []
  .refine xa ?_;exact jz ((),()) h []
 .
  refine sr (cq (nt (ax ?_)));cases h;exact ra
def kY(k:Nat)(a0:Int):Option Bool:=
 some (!decide (a0=a0))
theorem rP(k:Nat)(a0:Int)(r:Bool)(h:kY k a0=some r):
 dD Tryz.prog 172 [I a0] [] (λ_:Unit=>(bM [.eq (.bool r)],[])):=by
 unfold kY at h
 replace h:=bh h
 refine dD.of 6 Tryz.func172 rfl Tryz.ntmps172 rfl λS w0=>?_
 refine sr ?_
 refine cq ?_
 refine nt ?_
 refine sr ?_
 iterate 2 refine mq ?_
 refine jb (dZ rfl) ?_
 refine aq ?_
 refine nt ?_
 refine ax ?_
 cases h
 exact ra
def oR(k:Nat)(a0:Int)(a1:Int):Option Bool:=
 (((kY k a0).bind λr3=>
 if r3=true then((kY k a1).bind λr4=>
 if¬(r4=true) then(some true) else(some (decide (a0 < a1)))) else(some (decide (a0 < a1)))):Option (Bool)).bind λx1=>
 some x1
theorem AH(k:Nat)(a0:Int)(a1:Int)(r:Bool)(h:oR k a0 a1=some r):
 dD Tryz.prog 162 [I a0,I a1] [] (λ_:Unit=>(bM [.eq (.bool r)],[])):=by
 unfold oR at h
 replace h:=bh h
 refine dD.of 17 Tryz.func162 rfl Tryz.ntmps162 rfl λS w0=>?_
 refine sr ?_
 refine cq ?_
 refine nt ?_
 refine aM (Z:=Unit) (α:=Bool) (λz2 x1=>[(4,.eq (.bool x1))]) (λz2 x1=>[]) h (λK h=>?_) (λz2 x1 h=>?_)
 .
  refine ab (mq ?_);obtain⟨r3,e,h⟩:=aa h;refine ja (ay [.tmp 5] rfl rfl Oi rfl (rP k a0 r3 e)) ?_;refine mq ?_;refine cQ (s:=7) rfl (λhb=>?_) (λhb=>?_)
  .replace h:=eL (N4 hb) h;refine gm ?_;obtain⟨r4,c,h⟩:=aa h;refine ga (ay [.tmp 8] rfl rfl Oi rfl (rP k a1 r4 c)) ?_;refine ga (ic rfl) ?_;refine pt ?_;refine mq ?_;refine cQ (s:=12) rfl (λhb=>?_) (λhb=>?_)
   .replace h:=eL (zO hb) h;iterate 3 refine gn ?_
    refine pt ?_;refine aq (nl ?_);exact jz ((),true) h []
   .replace h:=cY (tu hb) h;refine gm ?_;refine gm ?_;refine gb (bN rfl) ?_;refine pf ?_;refine aq (nl ?_);exact jz ((),decide (a0 < a1)) h []
  .replace h:=cY (N6 hb) h;iterate 3 refine gn ?_
   refine pf ?_;refine mq ?_;refine gm ?_;refine gm ?_;refine gb (bN rfl) ?_;refine pf ?_;refine aq (nl ?_);exact jz ((),decide (a0 < a1)) h []
 .
  refine ax ?_;cases h;exact ra
def bL(k:Nat)(a1:Int):Nat->((List Int)×Int)->Option (List Int)
 |0,_=>none
 |n+1,y6=>
  ((if a1 < y6.2 then((aR y6.1 y6.2).bind λu=>
  (ck (y6.2 - 1)).bind λs=>
  (aR y6.1 s).bind λr=>
  (oR k u r).bind λx=>
  some x) else(some false)):Option (Bool)).bind λx8=>
  if x8=true then((ck (y6.2 - 1)).bind λe=>
  (ck (y6.2 - 1)).bind λl=>
  (aR y6.1 l).bind λc=>
  (aR y6.1 y6.2).bind λj=>
  (aR y6.1 y6.2).bind λD=>
  (aR (List.set y6.1 (Int.toNat y6.2) c) e).bind λy=>
  (ck (y6.2 - 1)).bind λh=>
  bL k a1 n (List.set (List.set y6.1 (Int.toNat y6.2) c) (Int.toNat e) j,h)) else(some y6.1)
def bi(k:Nat)(a1:Int)(a2:Int):Nat->((List Int)×Int)->Option (List Int)
 |0,_=>none
 |n+1,y2=>
  if y2.2 < a2 then(((bL k a1 k (y2.1,y2.2)):Option ((List Int))).bind λx4=>
  (ck (y2.2+1)).bind λc=>
  bi k a1 a2 n (x4,c)) else(some y2.1)
def bX(k:Nat)(a0:(List Int))(a1:Int)(a2:Int):Option (List Int):=
 (ck (a1+1)).bind λx1=>
 bi k a1 a2 k (a0,x1)
theorem jr(k:Nat)(a0:(List Int))(c:Value)(a1:Int)(a2:Int)(r:(List Int))(h:bX k a0 a1 a2=some r):
 dD Tryz.prog 156 [.eq c,I a1,I a2] [.sl c 3 Ti a0] (λ_:Unit=>(bM [],[.sl c 3 Ti r])):=by
 unfold bX at h
 replace h:=bh h
 refine dD.of 49 Tryz.func156 rfl Tryz.ntmps156 rfl λS w0=>?_
 refine sr ?_
 refine mq ?_
 obtain⟨x1,We,h⟩:=aa h
 refine jb (bp rfl We) ?_
 refine aq ?_
 refine nt ?_
 refine ai ?_
 refine aL (λz3 y2=>[(0,.eq c),(1,I a1),(2,I a2),(6,I y2.2)]) (λz3 y2=>[.sl c 3 Ti y2.1]) (bi k a1 a2) k () (a0,x1) (λ_=>rfl) h (SE.fin [0] ⟨rfl,rfl,rfl,rfl,trivial⟩ rfl) (λn z3 y2 h=>?_)
 unfold bi at h
 refine aj ?_
 refine sr ?_
 iterate 2 refine mq ?_
 refine jb (bN rfl) ?_
 refine nt ?_
 refine ci h (λh=>?_) (λh=>?_)
 .
  refine sk (aM (Z:=Unit) (α:=(List Int)) (λz5 x4=>[(0,.eq c),(1,I a1),(2,I a2),(6,I y2.2)]) (λz5 x4=>[.sl c 3 Ti x4]) h (λK h=>?_) (λz5 x4 h=>?_))
  .refine ai (sr (mq ?_));refine aq (nt (ai ?_));refine aL (λz7 y6=>[(0,.eq c),(1,I a1),(2,I a2),(6,I y2.2),(7,I y6.2)]) (λz7 y6=>[.sl c 3 Ti y6.1]) (bL k a1) k () (y2.1,y2.2) (λ_=>rfl) h (SE.fin [0] ⟨rfl,rfl,rfl,rfl,rfl,trivial⟩ rfl) (λn z7 y6 h=>?_);unfold bL at h;refine aj (aM (Z:=Unit) (α:=Bool) (λz9 x8=>[(0,.eq c),(1,I a1),(2,I a2),(6,I y2.2),(7,I y6.2),(30,.eq (.bool x8))]) (λz9 x8=>[.sl c 3 Ti y6.1]) h (λK h=>?_) (λz9 x8 h=>?_))
   .refine cV ?_;refine dm ?_;refine dm ?_;refine db (kB rfl) ?_;refine nL rfl rfl rfl (aV rfl) ⟨rfl,trivial⟩ (λhb=>?_) (λhb=>?_)
    .replace h:=eL (va hb) h;refine bg rfl rfl rfl rfl rfl (aV rfl) ⟨rfl,rfl,trivial⟩ ?_;refine bg rfl rfl rfl rfl rfl (aV rfl) ⟨rfl,rfl,trivial⟩ ?_;obtain⟨V3,x,h⟩:=aa h;refine kS 0 rfl rfl rfl rfl rfl rfl (cM (t:=Ti) rfl ie cx x) ⟨rfl,rfl,rfl,trivial⟩ ?_;refine kS 0 rfl rfl rfl rfl rfl rfl (g7 (i:=Int.toNat y6.2) (off:=0) rfl cx (λ_=>rfl) rfl (dP x).2.2 rfl) ⟨rfl,rfl,trivial⟩ ?_;refine bg rfl rfl rfl rfl rfl (aV rfl) ⟨rfl,rfl,trivial⟩ ?_;refine bg rfl rfl rfl rfl rfl (aV rfl) ⟨rfl,rfl,trivial⟩ ?_;obtain⟨V2,pq,h⟩:=aa h;refine bg rfl rfl rfl rfl rfl (eM rfl pq) ⟨rfl,rfl,rfl,trivial⟩ ?_;obtain⟨V0,u,h⟩:=aa h;refine kS 0 rfl rfl rfl rfl rfl rfl (cM (t:=Ti) rfl ie cx u) ⟨rfl,rfl,rfl,trivial⟩ ?_;refine kS 0 rfl rfl rfl rfl rfl rfl (g7 (i:=Int.toNat V2) (off:=0) rfl cx (λ_=>rfl) rfl (dP u).2.2 rfl) ⟨rfl,rfl,trivial⟩ ?_;refine df dQ ?_;obtain⟨F,qt,h⟩:=aa h;refine gb (ay [.tmp 23,.tmp 28] rfl rfl SD rfl (AH k V3 V0 F qt)) ?_;refine pt (nl ?_);exact jz ((),F) h [0]
    .replace h:=cY (vb hb) h;iterate 9 refine dg ?_
     refine df dQ ?_;refine gn ?_;refine pf (nl ?_);exact jz ((),false) h [0]
   .refine cv h (λh=>?_) (λh=>?_)
    .refine sk (aj (ai (o5 ?_)));refine bK rfl rfl rfl (aV rfl) ⟨rfl,trivial⟩ ?_;refine bK rfl rfl rfl (aV rfl) ⟨rfl,trivial⟩ ?_;refine bK rfl rfl rfl (aV rfl) ⟨rfl,trivial⟩ ?_;refine bK rfl rfl rfl (aV rfl) ⟨rfl,trivial⟩ ?_;obtain⟨y,mw,h⟩:=aa h;refine bK rfl rfl rfl (eM rfl mw) ⟨rfl,rfl,trivial⟩ ?_;refine bK rfl rfl rfl (aV rfl) ⟨rfl,trivial⟩ ?_;refine bK rfl rfl rfl (aV rfl) ⟨rfl,trivial⟩ ?_;obtain⟨VZ,mc,h⟩:=aa h;refine bK rfl rfl rfl (eM rfl mc) ⟨rfl,rfl,trivial⟩ ?_;obtain⟨E,s,h⟩:=aa h;refine gX 0 rfl rfl rfl rfl (cM (t:=Ti) rfl ie cx s) ⟨rfl,rfl,trivial⟩ ?_;refine gX 0 rfl rfl rfl rfl (g7 (i:=Int.toNat VZ) (off:=0) rfl cx (λ_=>rfl) rfl (dP s).2.2 rfl) ⟨rfl,trivial⟩ ?_;refine bK rfl rfl rfl (aV rfl) ⟨rfl,trivial⟩ ?_;refine bK rfl rfl rfl (aV rfl) ⟨rfl,trivial⟩ ?_;obtain⟨D,l,h⟩:=aa h;refine gX 0 rfl rfl rfl rfl (cM (t:=Ti) rfl ie cx l) ⟨rfl,rfl,trivial⟩ ?_;refine gX 0 rfl rfl rfl rfl (g7 (i:=Int.toNat y6.2) (off:=0) rfl cx (λ_=>rfl) rfl (dP l).2.2 rfl) ⟨rfl,trivial⟩ ?_;obtain⟨Wq,j,h⟩:=aa h;refine gX 0 rfl rfl rfl rfl (cM (t:=Ti) rfl ie cx j) ⟨rfl,rfl,trivial⟩ ?_;refine tl 15 [true,true,false,false,false,true,true,true,true,true,true,true,true,true,true] [48] [] [] rfl (by kernel_rfl) (by kernel_rfl) (by kernel_rfl) dQ (λvs hv hB=>?_);obtain⟨w0,WI,rfl,Wc⟩:=av hv;obtain⟨w1,WH,rfl,Wb⟩:=av Wc;obtain⟨w2,WG,rfl,Wa⟩:=av Wb;obtain⟨w3,WE,rfl,V9⟩:=av Wa;obtain⟨w4,WC,rfl,V8⟩:=av V9;obtain⟨w5,WB,rfl,V7⟩:=av V8;obtain⟨w6,WA,rfl,V6⟩:=av V7;obtain⟨w7,Wz,rfl,V5⟩:=av V6;obtain⟨w8,Wy,rfl,V4⟩:=av V5;obtain⟨w9,Wn,rfl,X⟩:=av V4;obtain⟨Wx,Wm,rfl,U⟩:=av X;obtain⟨Wv,Wj,rfl,Q⟩:=av U;obtain⟨Wu,Wi,rfl,O⟩:=av Q;obtain⟨Wt,Wh,rfl,M⟩:=av O;obtain⟨Ws,Wg,rfl,J⟩:=av M;obtain rfl:=pu J;refine⟨[0],[.sl c 3 Ti y6.1],by kernel_rfl,by decide,?_⟩;refine te rfl rfl (gJ (i:=Int.toNat y6.2) rfl cx rfl (nB j) rfl .int rfl) ⟨rfl,rfl,trivial⟩ (by kernel_rfl) ?_;obtain⟨Wp,e,h⟩:=aa h;refine vt rfl rfl rfl rfl (cM (t:=Ti) rfl ie cx e) ⟨rfl,rfl,trivial⟩ (by kernel_rfl) ?_;refine te rfl rfl (gJ (i:=Int.toNat y) rfl cx rfl (nB e) rfl .int rfl) ⟨rfl,rfl,trivial⟩ (by kernel_rfl) ?_;refine yN ?_;refine bF (SE.fin (Γ':=[(0,.eq c),(1,I a1),(2,I a2),(6,I y2.2),(7,I y6.2)]) (Δ':=[.sl c 3 Ti (List.set (List.set y6.1 (Int.toNat y6.2) E) (Int.toNat y) D)]) [0] ⟨rfl,rfl,rfl,rfl,rfl,trivial⟩ rfl) ?_;refine aO (tn (ab (mq ?_)));obtain⟨zM,gw,h⟩:=aa h;refine jb (eM rfl gw) ?_;refine aq (nl ?_);exact jz ((),(List.set (List.set y6.1 (Int.toNat y6.2) E) (Int.toNat y) D,zM)) h [0]
    .refine d5 (bv (bv (cu (bn ?_))));exact jz ((),y6.1) h [0]
  .refine ab (mq ?_);obtain⟨zz,Y,h⟩:=aa h;refine jb (bp rfl Y) ?_;refine aq (nl ?_);exact jz ((),(x4,zz)) h [0]
 .
  refine d5 (bv (bv (cu (jp ?_))));cases h;exact aP () [] 1 trivial rfl
def kx(k:Nat)(a0:Int):Option Int:=
 ((if 4294967296≤a0 then(some (ip .u64 a0 32,32)) else(some (a0,0))):Option (Int×Int)).bind λx1=>
 ((if 65536≤x1.1 then((ck (x1.2+16)).bind λx5=>
 some (ip .u64 x1.1 16,x5)) else(some (x1.1,x1.2))):Option (Int×Int)).bind λx3=>
 ((if 256≤x3.1 then((ck (x3.2+8)).bind λx8=>
 some (ip .u64 x3.1 8,x8)) else(some (x3.1,x3.2))):Option (Int×Int)).bind λx6=>
 (CC LV (IntKind.u8.wrap x6.1)).bind λx9=>
 (ck (x9.toNat:Int)).bind λe=>
 (ck (x6.2+e)).bind λc=>
 some c
theorem qF(k:Nat)(a0:Int)(r:Int)(h:kx k a0=some r):
 dD Tryz.prog 166 [.eq (.int .u64 a0)] [] (λ_:Unit=>(bM [I r],[])):=by
 unfold kx at h
 replace h:=bh h
 refine dD.of 25 Tryz.func166 rfl Tryz.ntmps166 rfl λS w0=>?_
 refine sr ?_
 refine cq ?_
 refine nt ?_
 refine aM (Z:=Unit) (α:=Int×Int) (λz2 x1=>[(0,.eq (.int .u64 x1.1)),(2,I x1.2)]) (λz2 x1=>[]) h (λK h=>?_) (λz2 x1 h=>?_)
 .
  refine sr (mq ?_);refine jb (jt rfl) ?_;refine nt (ci h (λh=>?_) (λh=>?_))
  .refine sr (mq ?_);refine cf rfl (uD rfl (by decide)) ⟨rfl,rfl,trivial⟩ ?_;refine aq (nt (ab ?_));refine cq (nl ?_);exact jz ((),(ip .u64 a0 32,32)) h []
  .refine bf (ap ?_);exact jz ((),(a0,0)) h []
 .
  refine aM (Z:=Unit) (α:=Int×Int) (λz4 x3=>[(0,.eq (.int .u64 x3.1)),(2,I x3.2)]) (λz4 x3=>[]) h (λK h=>?_) (λz4 x3 h=>?_)
  .refine sr (mq ?_);refine jb (jt rfl) ?_;refine nt (ci h (λh=>?_) (λh=>?_))
   .refine sr (mq ?_);refine cf rfl (uD rfl (by decide)) ⟨rfl,rfl,trivial⟩ ?_;refine aq (nt (ab ?_));refine mq ?_;obtain⟨x5,n,h⟩:=aa h;refine jb (bp rfl n) ?_;refine aq (nl ?_);exact jz ((),(ip .u64 x1.1 16,x5)) h []
   .refine bf (ap ?_);exact jz ((),(x1.1,x1.2)) h []
  .refine aM (Z:=Unit) (α:=Int×Int) (λz7 x6=>[(0,.eq (.int .u64 x6.1)),(2,I x6.2)]) (λz7 x6=>[]) h (λK h=>?_) (λz7 x6 h=>?_)
   .refine sr (mq ?_);refine jb (jt rfl) ?_;refine nt (ci h (λh=>?_) (λh=>?_))
    .refine sr (mq ?_);refine cf rfl (uD rfl (by decide)) ⟨rfl,rfl,trivial⟩ ?_;refine aq (nt (ab ?_));refine mq ?_;obtain⟨x8,l,h⟩:=aa h;refine jb (bp rfl l) ?_;refine aq (nl ?_);exact jz ((),(ip .u64 x3.1 8,x8)) h []
    .refine bf (ap ?_);exact jz ((),(x3.1,x3.2)) h []
   .refine sr ?_;iterate 2 refine mq ?_
    refine ja (sq rfl TP U5) ?_;obtain⟨x9,j,h⟩:=aa h;refine ja (zL rfl U9 j) ?_;obtain⟨u,e,h⟩:=aa h;refine ja (zN rfl U5 U3 e) ?_;obtain⟨s,c,h⟩:=aa h;refine jb (bp rfl c) ?_;refine aq (nt (ax ?_));cases h;exact ra
def pI(k:Nat)(a0:Int):Option Int:=
 (kx k a0).bind λr1=>
 some r1
theorem CX(k:Nat)(a0:Int)(r:Int)(h:pI k a0=some r):
 dD Tryz.prog 155 [.eq (.int .u64 a0)] [] (λ_:Unit=>(bM [I r],[])):=by
 unfold pI at h
 replace h:=bh h
 refine dD.of 8 Tryz.func155 rfl Tryz.ntmps155 rfl λS w0=>?_
 refine sr ?_
 refine cq ?_
 refine nt ?_
 refine aj ?_
 refine JX (λhb=>(by cases hb)) (λhb=>?_)
 refine sk ?_
 refine sr ?_
 refine mq ?_
 obtain⟨r1,c,h⟩:=aa h
 have e:=qF k a0 r1 c
 refine ja (ay [.tmp 6] rfl rfl SC rfl e) ?_
 refine aq ?_
 refine nt ?_
 refine ax ?_
 cases h
 exact ra
def cF(k:Nat)(a0:(List Int))(a1:Int)(a2:Int)(a3:Int):Nat->Unit->Option (List Int)
 |0,_=>none
 |n+1,y1=>
  (ck (a2 - a1)).bind λx3=>
  if x3≤12 then((bX k a0 a1 a2).bind λr4=>
  some r4) else(if a3=0 then(none) else(none))
def cZ(k:Nat)(a0:(List Int))(a1:Int)(a2:Int)(a3:Int):Option (List Int):=
 cF k a0 a1 a2 a3 k ()
theorem lS(k:Nat)(a0:(List Int))(c:Value)(a1:Int)(a2:Int)(a3:Int)(r:(List Int))(h:cZ k a0 a1 a2 a3=some r):
 dD Tryz.prog 154 [.eq c,I a1,I a2,I a3] [.sl c 3 Ti a0] (λ_:Unit=>(bM [],[.sl c 3 Ti r])):=by
 unfold cZ at h
 replace h:=bh h
 refine dD.of 134 Tryz.func154 rfl Tryz.ntmps154 rfl λS w0=>?_
 refine sr ?_
 refine cq ?_
 refine nt ?_
 refine sr ?_
 refine cq ?_
 refine nt ?_
 refine ai ?_
 refine aL (λz2 y1=>[(0,.eq c),(1,I a1),(2,I a2),(3,I a3),(8,.eq (.bool true)),(9,.eq (.bool true))]) (λz2 y1=>[.sl c 3 Ti a0]) (cF k a0 a1 a2 a3) k () () (λ_=>rfl) h (SE.fin [0] ⟨rfl,rfl,rfl,rfl,rfl,rfl,trivial⟩ rfl) (λn z2 y1 h=>?_)
 unfold cF at h
 refine ai ?_
 refine sr ?_
 iterate 2 refine mq ?_
 obtain⟨x3,e,h⟩:=aa h
 refine jb (eM rfl e) ?_
 refine aq ?_
 refine nt ?_
 refine aj ?_
 refine sr ?_
 refine mq ?_
 refine jb (Dz rfl) ?_
 refine nt ?_
 refine ci h (λh=>?_) (λh=>?_)
 .
  refine sr ?_;iterate 3 refine mq ?_
  obtain⟨r4,j,h⟩:=aa h;refine kc (ay [.tmp 24,.tmp 25,.tmp 26] rfl rfl SG rfl (jr k a0 c a1 a2 r4 j)) ?_;refine nt (rx (ba (be (ba ?_))));cases h;exact aP () [] 1 trivial rfl
 .
  refine sk (aj (sr (mq ?_)));refine jb (gx rfl) ?_;refine nt (ci h (λh=>?_) (λh=>?_))
  .cases h
  .cases h
def fO(k:Nat)(a0:(List Int)):Option (List Int):=
 (pI k (IntKind.u64.wrap (a0.length:Int))).bind λr1=>
 (cZ k a0 0 (a0.length:Int) r1).bind λr2=>
 some r2
theorem tI(k:Nat)(a0:(List Int))(c:Value)(r:(List Int))(h:fO k a0=some r):
 dD Tryz.prog 140 [.eq c] [.sl c 3 Ti a0] (λ_:Unit=>(bM [],[.sl c 3 Ti r])):=by
 unfold fO at h
 replace h:=bh h
 refine dD.of 11 Tryz.func140 rfl Tryz.ntmps140 rfl λS w0=>?_
 refine sr ?_
 refine mq ?_
 refine ka (mP rfl rfl ie) ?_
 refine aq ?_
 refine nt ?_
 refine ab ?_
 iterate 3 refine mq ?_
 refine ja (sq rfl U3 Vn) ?_
 obtain⟨r1,j,h⟩:=aa h
 have n:=CX k (IntKind.u64.wrap (a0.length:Int)) r1 j
 refine ja (ay [.tmp 8] rfl rfl SH rfl n) ?_
 obtain⟨r2,e,h⟩:=aa h
 have l:=lS k a0 c 0 (a0.length:Int) r1 r2 e
 refine mz rfl rfl rfl (ay [.tmp 5,.const (.int .i64 (0)),.tmp 6,.tmp 9] rfl rfl SI rfl l) ⟨rfl,rfl,rfl,rfl,trivial⟩ ?_
 refine aF ?_
 refine jp ?_
 cases h
 exact aP () [] 1 trivial rfl
def cI(k:Nat)(a1:Int)(x3:(List (List Int))):Nat->Int->Option (Except (Int ⊕ (List Int)) Unit)
 |0,_=>none
 |n+1,y4=>
  if y4 < (x3.length:Int) then((aR x3 y4).bind λx6=>
  (gi k x6 a1).bind λr7=>
  if 0≤r7 then(((if 0 < r7 then((ck (r7 - 1)).bind λs=>
  (aR x6 s).bind λe=>
  (cP (bW (length ([]:(List Int))+length [e]))).bind λ_=>
  some (([]:(List Int))++[e])) else(some ([]:(List Int)))):Option ((List Int))).bind λx8=>
  (((ck (r7+1)).bind λl=>
  if l < (x6.length:Int) then((ck (r7+1)).bind λj=>
  (aR x6 j).bind λc=>
  (cP (bW (length x8+length [c]))).bind λ_=>
  some (x8++[c])) else(some x8)):Option ((List Int))).bind λr=>
  (fO k r).bind λu=>
  some (.error (Sum.inr u:(Int ⊕ (List Int))))) else((ck (y4+1)).bind λh=>
  cI k a1 x3 n h)) else(some (.ok ()))
def ec(k:Nat):Nat->ae->Int->Int->Option ((Int ⊕ (List Int)))
 |0,_,_,_=>none
 |m0+1,a0,a1,a2=>
  bE (α:=Unit) ((aR a0.2.2.2.2.1 a2).bind λx3=>
  cI k a1 x3 k 0) (some) λ_=>
  ((if 0 < a2 then((ck (a2 - 1)).bind λh=>
  ((ec k m0) a0 a1 h).bind λc=>
  if K5 c=true then((ck (1+(Q9 c))).bind λe=>
  some e) else(some 1)) else(some 1)):Option (Int)).bind λj=>
  some (Sum.inl j:(Int ⊕ (List Int)))
theorem lC{M:Md Tryz.prog}{bm:Nat}{c0 c1 c2 c3 c4 c5:Value}(hK:Kn M bm 0 [c0,c1,c2,c3,c4,c5])(k:Nat):
 ∀(n:Nat) (a0:ae) (a1:Int) (a2:Int) (r:(Int ⊕ (List Int))),ec k n a0 a1 a2=some r->bR M 112 [.rep (.mo (Pv bm) [c0,c1,c2,c3,c4,c5] an) a0,I a1,I a2] ([]) (λ_:Unit=>(bM [.rep (.pl 164 166 Tl) r],[])):=by
 intro n
 induction n with
 |zero=>intro a0 a1 a2 r h;cases h
 |succ m0 ih=>
  intro a0 a1 a2 r h;rw [ec] at h;replace h:=bh h;refine bR.of 80 Tryz.func112 rfl Tryz.ntmps112 rfl λS w0=>?_;refine sr (cq (nt ?_));refine dK (Z:=Unit) (α:=Unit) (λz2 x1=>[(0,.rep (.mo (Pv bm) [c0,c1,c2,c3,c4,c5] an) a0),(1,I a1),(2,I a2)]) (λz2 x1=>[]) (λe=>e=r) h (λe h=>Option.some.inj h) (λK hR h=>?_) (λz2 x1 h=>?_)
  .refine sr (mq ?_);refine ja (ly rfl) ?_;refine ja (gP rfl ia) ?_;refine ja (iF 1 false rfl eO rfl rfl) ?_;refine ja (jv (t:=(.slice (.slice Tl))) rfl lR (hK.sub 4 1 rfl (le_of_ble_eq_true rfl)) rfl rfl) ?_;refine mq ?_;obtain⟨x3,V3,h⟩:=aa h;refine jb (aX (t:=(.slice Tl)) rfl Bm zr V3) ?_;refine ja (au (t:=(.slice Tl)) rfl zr rfl) ?_;refine ol ta ?_;refine eH rfl ?_;refine nt (ai (aL (λz5 y4=>[(0,.rep (.mo (Pv bm) [c0,c1,c2,c3,c4,c5] an) a0),(1,I a1),(2,I a2),(21,.rep (.slice Tl) x3),(22,I (x3.length:Int)),(23,I y4)]) (λz5 y4=>[]) (cI k a1 x3) k () 0 (λ_=>rfl) h (SE.fin [] ⟨rfl,rfl,rfl,rfl,rfl,rfl,trivial⟩ rfl) (λn z5 y4 h=>?_)));unfold cI at h;refine sr (jb (bN rfl) ?_);refine nt (aj (ci h (λh=>?_) (λh=>?_)))
   .refine sk (aj (ai (sr ?_)));obtain⟨x6,V2,h⟩:=aa h;refine jb (aX (t:=Tl) rfl ta gG V2) ?_;refine ja (au (t:=Tl) rfl gG rfl) ?_;refine aq (nt (sr ?_));iterate 2 refine mq ?_
    obtain⟨r7,V4,h⟩:=aa h;refine jb (ay [.tmp 27,.tmp 28] rfl rfl Sj rfl (mK k x6 a1 r7 V4)) ?_;refine aq (nt (sr ?_));refine mq ?_;refine jb (jt rfl) ?_;refine nt (ci h (λh=>?_) (λh=>?_))
    .refine sr (cq (nt ?_));refine aM (Z:=Value) (α:=(List Int)) (λz9 x8=>[(8,.rep Tl x6),(9,I r7),(10,.eq z9)]) (λz9 x8=>[.sl z9 3 Ti x8]) h (λK h=>?_) (λz9 x8 h=>?_)
     .refine sr (mq ?_);refine jb (kB rfl) ?_;refine nt (ci h (λh=>?_) (λh=>?_))
      .refine ab ?_;iterate 3 refine mq ?_
       obtain⟨V7,U,h⟩:=aa h;refine jb (eM rfl U) ?_;obtain⟨x,Q,h⟩:=aa h;refine jb (aX (t:=Ti) rfl ie cx Q) ?_;refine ja (au (t:=Ti) rfl cx rfl) ?_;refine ja (bj (t:=Ti) [(.tmp 39,_)] [x] rfl rfl dL (.cons rfl .int .nil) rfl rfl) ?_;refine eF (SE.nil 3 Ti) ?_;obtain⟨V9,Y,h⟩:=aa h;refine eG rfl rfl rfl (cO rfl rfl dL (am Y)) ⟨rfl,rfl,trivial⟩ λzM=>?_;refine aq (nl ?_);exact jz (zM,([]:(List Int))++[x]) h [0]
      .refine bf (ap (bF (SE.nil 3 Ti) ?_));exact jz ((.slice none 0 0),([]:(List Int))) h [0]
     .refine aM (Z:=Value) (α:=(List Int)) (λc j=>[(10,.eq c)]) (λc j=>[.sl c 3 Ti j]) h (λK h=>?_) (λc j h=>?_)
      .refine sr (mq ?_);obtain⟨V6,O,h⟩:=aa h;refine jb (bp rfl O) ?_;refine mq ?_;refine ol ie ?_;refine jb (bN rfl) ?_;refine nt (ci h (λh=>?_) (λh=>?_))
       .refine ab ?_;iterate 3 refine mq ?_
        obtain⟨V5,J,h⟩:=aa h;refine jb (bp rfl J) ?_;obtain⟨u,F,h⟩:=aa h;refine jb (aX (t:=Ti) rfl ie cx F) ?_;refine ja (au (t:=Ti) rfl cx rfl) ?_;refine ja (bj (t:=Ti) [(.tmp 52,_)] [u] rfl rfl dL (.cons rfl .int .nil) rfl rfl) ?_;obtain⟨V8,X,h⟩:=aa h;refine eG rfl rfl rfl (cO rfl rfl dL (am X)) ⟨rfl,rfl,trivial⟩ λzz=>?_;refine aq (nl ?_);exact jz (zz,x8++[u]) h [0]
       .refine bf (ap ?_);exact jz (z9,x8) h [0]
      .refine sr (mq ?_);obtain⟨V0,mc,h⟩:=aa h;refine ka (ay [.tmp 55] rfl rfl SJ rfl (tI k j c V0 mc)) ?_;refine nt (sr (mq ?_));refine eF (jo [10,55,57] ⟨rfl,rfl,rfl,trivial⟩) ?_;refine ja (eh [(0,.tmp 57,_)] rfl Rf NU Qg (jO ⟨rfl,trivial⟩) rfl) ?_;refine ja (Ld (t0:=164) (t:=Ti) rfl Vl) ?_;refine aq (nt (ax (br (ba (be ?_)))));obtain rfl:=hR _ h;exact ra
    .refine bf (aO (tn (ab ?_)));obtain⟨qt,E,h⟩:=aa h;refine jb (bp rfl E) ?_;refine mq (nl ?_);exact jz ((),qt) h []
   .refine xa ?_;exact jz ((),()) h []
  .refine sr (cq (nt ?_));refine aM (Z:=Unit) (α:=Int) (λs l=>[(11,I l)]) (λs l=>[]) h (λK h=>?_) (λs l h=>?_)
   .refine sr (mq ?_);refine jb (kB rfl) ?_;refine nt (ci h (λh=>?_) (λh=>?_))
    .refine sr ?_;iterate 3 refine mq ?_
     obtain⟨pq,D,h⟩:=aa h;refine jb (eM rfl D) ?_;obtain⟨VZ,gw,h⟩:=aa h;refine jc (aS [.tmp 64,.tmp 65,.tmp 67] rfl rfl IY rfl (ih a0 a1 pq VZ gw)) ?_;refine cf rfl (DC rfl G4 (by decide)) ⟨rfl,trivial⟩ ?_;refine mq ?_;refine xr ?_;refine xr ?_;refine aW rfl rfl rfl (bb rfl Gs Oy) trivial λWa=>?_;refine aJ rfl rfl (aE rfl N8 trivial rfl rfl) ⟨rfl,rfl,trivial⟩ ?_;refine aq (nt (sr ?_));refine mq (nt ?_);refine cv h (λh=>?_) (λh=>?_)
     .refine ab (mq ?_);refine fl D8 ?_;refine lo cx ?_;obtain⟨mw,y,h⟩:=aa h;refine jb (bp rfl y) ?_;refine aq (nl ?_);exact jz ((),mw) h []
     .refine bf (ap ?_);exact jz ((),1) h []
    .refine bf (ap ?_);exact jz ((),1) h []
   .refine sr (mq ?_);refine ja (eh [(0,.tmp 77,_)] rfl Rh Gs Qh (jO ⟨rfl,trivial⟩) rfl) ?_;refine ja (Le (t1:=166) (t:=Ti) rfl Vm) ?_;refine aq (nt (ax ?_));cases h;exact ra
def iC(k:Nat)(a0:Oq):Option (List Int):=
 some ([]:(List Int))
theorem qz(k:Nat)(a0:Oq)(r:(List Int))(h:iC k a0=some r):
 dD Tryz.prog 190 [.rep Q3 a0] [] (λ_:Unit=>(bM [.rep Tl r],[])):=by
 unfold iC at h
 replace h:=bh h
 refine dD.of 3 Tryz.func190 rfl Tryz.ntmps190 rfl λS w0=>?_
 refine sr ?_
 refine bx λb1=>?_
 refine cq ?_
 refine nt ?_
 refine sr ?_
 refine cq ?_
 refine nt ?_
 refine ax ?_
 refine bF (eg (t:=Tl) (x:=([]:(List Int))) 2 rfl .nil rfl rfl) ?_
 cases h
 exact ra
def iy(k:Nat)(a0:Oo):Option (List Int):=
 some a0
theorem qq(k:Nat)(a0:Oo)(r:(List Int))(h:iy k a0=some r):
 dD Tryz.prog 191 [.rep Q2 a0] [] (λ_:Unit=>(bM [.rep Tl r],[])):=by
 unfold iy at h
 replace h:=bh h
 refine dD.of 5 Tryz.func191 rfl Tryz.ntmps191 rfl λS w0=>?_
 refine sr ?_
 refine bx λb1=>?_
 refine cq ?_
 refine nt ?_
 refine sr ?_
 refine fl Me ?_
 refine lo gG ?_
 refine aq ?_
 refine nt ?_
 refine ax ?_
 cases h
 exact ra
def bY(k:Nat)(a0:ae)(a1:(List Int))(r5:(List Int)):Nat->Int->Option (Except Int Unit)
 |0,_=>none
 |n+1,y6=>
  if y6 < (r5.length:Int) then((aR r5 y6).bind λx8=>
  (cP (0≤x8/\x8 < 5)).bind λ_=>
  (aR a1 x8).bind λe=>
  if(sR 0 a0.2.1)≤e then(some (.error x8)) else((ck (y6+1)).bind λc=>
  bY k a0 a1 r5 n c)) else(some (.ok ()))
def dA(k:Nat)(a0:ae)(a1:(List Int))(a2:Int)(a3:Int):Option Int:=
 bE (α:=Unit) ((ec k k a0 a2 a3).bind λr4=>
 (I9 r4 (λn=>iC k n) (λl=>iy k l)).bind λr5=>
 bY k a0 a1 r5 k 0) (some) λ_=>
 some (-1:Int)
theorem jT{M:Md Tryz.prog}{bm:Nat}{c0 c1 c2 c3 c4 c5:Value}(hK:Kn M bm 0 [c0,c1,c2,c3,c4,c5])(k:Nat)(a0:ae)(a1:(List Int))(a2:Int)(a3:Int)(r:Int)(h:dA k a0 a1 a2 a3=some r):
    bR M 113 [.rep (.mo (Pv bm) [c0,c1,c2,c3,c4,c5] an) a0,.rep Tr a1,.eq (.int .i64 a2),.eq (.int .i64 a3)] [] (λ_:Unit=>(bM [.eq (.int .i64 r)],[])):=by
  unfold dA at h
  replace h:=bh h
  refine bR.of 33 Tryz.func113 rfl Tryz.ntmps113 rfl λS w0=>?_
  refine aj ?_
  refine ab ?_
  refine aW rfl rfl rfl (wN rfl rfl) ⟨rfl,trivial⟩ λb1=>?_
  refine ED rfl ?_
  refine aF ?_
  refine ap ?_
  show JC _ _ _ _ _
  refine dK (Z:=Unit) (α:=Unit) (λz3 x2=>[]) (λz3 x2=>[]) (λe=>e=r) h (λe h=>Option.some.inj h) (λK hR h=>?_) (λz3 x2 h=>?_)
  .
    refine aj ?_
    refine ab ?_
    refine ig rfl rfl ?_
    refine ig rfl rfl ?_
    refine ig rfl rfl ?_
    obtain⟨r4,D,h⟩:=aa h
    have E:=lC hK k k a0 a2 a3 r4 D
    refine cf rfl (aS [.tmp 11,.tmp 12,.tmp 13] rfl rfl IY rfl E) ⟨rfl,rfl,rfl,trivial⟩ ?_
    obtain⟨r5,c,h⟩:=aa h
    refine cf rfl (Lh (r:=.rep Tl r5) rfl rfl vV vU (λn hd=>.agI (qz k n r5 (by rw [hd] at c;exact c))) (λl hd=>.agS (qq k l r5 (by rw [hd] at c;exact c)))) ⟨rfl,trivial⟩ ?_
    refine cf rfl (rj rfl rfl ie) ⟨rfl,trivial⟩ ?_
    refine eH rfl ?_
    refine aF ?_
    refine ap ?_
    show JC _ _ _ _ _
    refine ai ?_
    refine aL (λz7 y6=>[(0,.rep (.mo (Pv bm) [c0,c1,c2,c3,c4,c5] an) a0),(5,.eq (Pv b1)),(15,.rep Tl r5),(16,.eq (.int .i64 (r5.length:Int))),(17,.eq (.int .i64 y6))]) (λz7 y6=>[.obj b1 80 (.rep Tr a1)]) (bY k a0 a1 r5) k () 0 (λ_=>rfl) h (SE.fin [0] ⟨rfl,rfl,rfl,rfl,rfl,trivial⟩ rfl) (λn z7 y6 h=>?_)
    unfold bY at h
    refine aj ?_
    refine ab ?_
    refine cf rfl (bN rfl) ⟨rfl,rfl,trivial⟩ ?_
    refine aF ?_
    refine ap ?_
    show JC _ _ _ _ _
    refine aj ?_
    refine jq rfl (λhb=>?_) (λhb=>?_)
    . replace h:=eL (va hb) h
      refine bf ?_
      refine ap ?_
      show JC _ _ _ _ _
      refine aj ?_
      refine ai ?_
      refine aj ?_
      refine ab ?_
      obtain⟨x8,y,h⟩:=aa h
      refine cf rfl (aX (t:=Ti) rfl ie cx y) ⟨rfl,rfl,trivial⟩ ?_
      refine cf rfl (au (t:=Ti) rfl cx rfl) ⟨rfl,trivial⟩ ?_
      refine vx rfl rfl ?_
      refine aF ?_
      refine ap ?_
      show JC _ _ _ _ _
      refine aj ?_
      refine cV ?_
      refine f9 rfl rfl rfl (aV rfl) ⟨rfl,trivial⟩ ?_
      obtain⟨u9,u,h⟩:=aa h
      refine f9 rfl rfl rfl (dW rfl Bl cx (am u).1 (am u).2) ⟨rfl,rfl,trivial⟩ ?_
      obtain⟨F,s,h⟩:=aa h
      refine vA 0 rfl rfl rfl rfl (nm (t:=Ti) (off:=0) (i:=x8) (N:=5) rfl cx (λ_=>rfl) rfl rfl rfl rfl s) ⟨rfl,trivial⟩ ?_
      refine f9 rfl rfl rfl (aV rfl) ⟨rfl,trivial⟩ ?_
      refine f9 rfl rfl rfl (ly rfl) ⟨rfl,trivial⟩ ?_
      refine f9 rfl rfl rfl (gP rfl ia) ⟨rfl,trivial⟩ ?_
      refine f9 rfl rfl rfl (iF 1 false rfl CM rfl rfl) ⟨rfl,trivial⟩ ?_
      refine f9 rfl rfl rfl (jv (t:=Ti) rfl cx (hK.sub 1 1 rfl (le_of_ble_eq_true rfl)) rfl rfl) ⟨rfl,trivial⟩ ?_
      refine f9 rfl rfl rfl (HQ rfl rfl) ⟨rfl,rfl,trivial⟩ ?_
      refine Df (by kernel_rfl) dQ ?_
      refine cf rfl (jt rfl) ⟨rfl,rfl,trivial⟩ ?_
      refine aF ?_
      refine ap ?_
      show JC _ _ _ _ _
      refine jq rfl (λhb=>?_) (λhb=>?_)
      . replace h:=eL (va hb) h
        refine aj ?_
        refine ab ?_
        refine ig rfl rfl ?_
        refine vx rfl rfl ?_
        refine aF ?_
        refine ap ?_
        show JC _ _ _ _ _
        refine ax ?_
        refine ba ?_
        refine be ?_
        refine be ?_
        refine ba ?_
        refine be ?_
        obtain rfl:=hR _ h
        exact aP () [_] 0 ⟨rfl,trivial⟩ rfl
      . replace h:=cY (vb hb) h
        refine bf ?_
        refine aO ?_
        refine ap ?_
        show JC _ _ _ _ _
        refine ab ?_
        obtain⟨x,j,h⟩:=aa h
        refine cf rfl (bp rfl j) ⟨rfl,rfl,trivial⟩ ?_
        refine ig rfl rfl ?_
        refine aF ?_
        refine ap ?_
        exact tg ((),x) h (SE.fin [0] ⟨rfl,rfl,rfl,rfl,rfl,trivial⟩ rfl)
    . replace h:=cY (vb hb) h
      refine d5 ?_
      refine bv ?_
      refine bv ?_
      refine cu ?_
      refine ap ?_
      exact tg ((),()) h (SE.fin [] trivial rfl)
  .
    refine aj ?_
    refine ab ?_
    refine ED rfl ?_
    refine aF ?_
    refine ap ?_
    show JC _ _ _ _ _
    refine ax ?_
    obtain rfl:=Option.some.inj h
    exact aP () [_] 0 ⟨rfl,trivial⟩ rfl
def cz(k:Nat)(a0:ae)(a1:(List Int))(a2:Int):Nat->((List Int)×Int)->Option (List Int)
 |0,_=>none
 |n+1,y6=>
  if y6.2 < a0.1 then((((ec k k a0 y6.2 a2).bind λc=>
  if K5 c=true then(if a0.2.2.2.1≤(Q9 c) then((cP (0≤y6.2/\y6.2 < 5)).bind λ_=>
  some (List.set y6.1 (Int.toNat y6.2) (-1:Int))) else(some y6.1)) else(if¬(K5 c=true) then((cP (0≤y6.2/\y6.2 < 5)).bind λ_=>
  (aR a1 y6.2).bind λl=>
  if 0≤l then((cP (0≤y6.2/\y6.2 < 5)).bind λ_=>
  (aR a1 y6.2).bind λj=>
  (ck (j+1)).bind λh=>
  (cP (0≤y6.2/\y6.2 < 5)).bind λ_=>
  some (List.set y6.1 (Int.toNat y6.2) h)) else((dA k a0 a1 y6.2 a2).bind λr=>
  if 0≤r then((cP (0≤y6.2/\y6.2 < 5)).bind λ_=>
  some (List.set y6.1 (Int.toNat y6.2) 0)) else(some y6.1))) else(some y6.1))):Option ((List Int))).bind λx8=>
  (ck (y6.2+1)).bind λe=>
  cz k a0 a1 a2 n (x8,e)) else(some y6.1)
def gR(k:Nat)(a0:ae)(a1:(List Int))(a2:Int):Option (List Int):=
 ((cz k a0 a1 a2 k (a1,0)):Option ((List Int))).bind λx4=>
 some x4
theorem rz{M:Md Tryz.prog}{bm:Nat}{c0 c1 c2 c3 c4 c5:Value}(hK:Kn M bm 0 [c0,c1,c2,c3,c4,c5])(k:Nat)(a0:ae)(a1:(List Int))(a2:Int)(r:(List Int))(h:gR k a0 a1 a2=some r):
 bR M 79 [.rep (.mo (Pv bm) [c0,c1,c2,c3,c4,c5] an) a0,.rep Tr a1,I a2] [] (λ_:Unit=>(bM [.rep Tr r],[])):=by
 unfold gR at h
 replace h:=bh h
 refine bR.of 60 Tryz.func79 rfl Tryz.ntmps79 rfl λS w0=>?_
 refine sr ?_
 refine bx λb1=>?_
 refine aW rfl rfl rfl (bb rfl J8 Na) trivial λb2=>?_
 refine nt ?_
 refine sr ?_
 refine fr 1 ?_
 refine lo iT ?_
 refine aW rfl rfl rfl (bb rfl J8 Na) trivial λb3=>?_
 refine aJ rfl rfl (aE rfl iT rfl rfl rfl) ⟨rfl,rfl,trivial⟩ ?_
 refine nt ?_
 refine aM (Z:=Unit) (α:=(List Int)) (λz5 x4=>[(6,Pt b2),(7,Pt b3)]) (λz5 x4=>[.obj b2 80 (.rep Tr [0,0,0,0,0]),.obj b3 80 (.rep Tr x4)]) h (λK h=>?_) (λz5 x4 h=>?_)
 .
  refine sr (mq ?_);refine ja (ly rfl) ?_;refine ja (gP rfl ia) ?_;refine ja (iF 1 false rfl gr rfl rfl) ?_;refine ja (jv (t:=Ti) rfl cx (hK.sub 0 1 rfl (le_of_ble_eq_true rfl)) rfl rfl) ?_;refine eH rfl ?_;refine nt (ai (aL (λz7 y6=>[(0,.rep (.mo (Pv bm) [c0,c1,c2,c3,c4,c5] an) a0),(2,I a2),(4,Pt b1),(6,Pt b2),(7,Pt b3),(16,I a0.1),(17,I y6.2)]) (λz7 y6=>[.obj b1 80 (.rep Tr a1),.obj b2 80 (.rep Tr [0,0,0,0,0]),.obj b3 80 (.rep Tr y6.1)]) (cz k a0 a1 a2) k () (a1,0) (λ_=>rfl) h (SE.fin [1,2,0] ⟨rfl,rfl,rfl,rfl,rfl,rfl,rfl,trivial⟩ rfl) (λn z7 y6 h=>?_)));unfold cz at h;refine sr (jb (bN rfl) ?_);refine nt (aj (ci h (λh=>?_) (λh=>?_)))
  .refine sk (aM (Z:=Unit) (α:=(List Int)) (λz9 x8=>[(0,.rep (.mo (Pv bm) [c0,c1,c2,c3,c4,c5] an) a0),(2,I a2),(4,Pt b1),(6,Pt b2),(7,Pt b3),(16,I a0.1),(17,I y6.2)]) (λz9 x8=>[.obj b1 80 (.rep Tr a1),.obj b2 80 (.rep Tr [0,0,0,0,0]),.obj b3 80 (.rep Tr x8)]) h (λK h=>?_) (λz9 x8 h=>?_))
   .refine ai (sr (mq ?_));refine aq (nt (sr ?_));iterate 3 refine mq ?_
    obtain⟨U,F,h⟩:=aa h;refine jc (aS [.tmp 20,.tmp 21,.tmp 22] rfl rfl IY rfl (lC hK k k a0 y6.2 a2 U F)) ?_;refine nt (ai (sr (cf rfl (DC rfl G4 (by decide)) ⟨rfl,trivial⟩ ?_)));refine xr ?_;refine xr ?_;refine nt (cv h (λh=>?_) (λh=>?_))
    .refine sr (aW rfl rfl rfl (bb rfl Gs Oy) trivial λzz=>?_);refine aJ rfl rfl (aE rfl N8 trivial rfl rfl) ⟨rfl,rfl,trivial⟩ ?_;refine nt (aj (cV ?_));refine da (aH rfl D8) ?_;refine ea 0 (aC rfl cx nW rfl) ?_;refine dm ?_;refine da (ly rfl) ?_;refine da (gP rfl ia) ?_;refine da (iF 1 false rfl IS rfl rfl) ?_;refine da (jv (t:=Ti) rfl cx (hK.sub 3 1 rfl (le_of_ble_eq_true rfl)) rfl rfl) ?_;refine df dQ ?_;refine jb (jt rfl) ?_;refine nt (ci h (λh=>?_) (λh=>?_))
     .refine ab (mq ?_);obtain⟨pq,j,h⟩:=aa h;refine jb (dW rfl Bl cx (am j).1 (am j).2) ?_;refine fr 3 ?_;refine aJ rfl rfl (gK (t:=Ti) (off:=0) (i:=y6.2) (N:=5) rfl cx .int rfl rfl rfl rfl (am j).1 (am j).2 rfl) ⟨rfl,rfl,trivial⟩ ?_;refine aF (aO (bn ?_));exact jz ((),List.set y6.1 (Int.toNat y6.2) (-1:Int)) h [2,3,0]
     .refine bf (aO (bn ?_));exact jz ((),y6.1) h [1,2,3]
    .refine sr (cf rfl (Ln rfl OU (by decide)) ⟨rfl,trivial⟩ ?_);refine xr ?_;refine xr ?_;refine nt (cw h (λh=>?_) (λh=>?_))
     .refine sr (aW rfl rfl rfl (bb rfl NU SZ) trivial λqt=>?_);refine aJ rfl rfl (aE rfl Q4 trivial rfl rfl) ⟨rfl,rfl,trivial⟩ ?_;refine nt (sr (mq ?_));obtain⟨mw,s,h⟩:=aa h;refine jb (dW rfl Bl cx (am s).1 (am s).2) ?_;obtain⟨Y,D,h⟩:=aa h;refine fr 1 ?_;refine ka (nm (t:=Ti) (off:=0) (i:=y6.2) (N:=5) rfl cx (λ_=>rfl) rfl rfl rfl rfl D) ?_;refine jb (jt rfl) ?_;refine nt (ci h (λh=>?_) (λh=>?_))
      .refine ab ?_;iterate 2 refine mq ?_
       obtain⟨u16,l,h⟩:=aa h;refine jb (dW rfl Bl cx (am l).1 (am l).2) ?_;obtain⟨X,y,h⟩:=aa h;refine ka (nm (t:=Ti) (off:=0) (i:=y6.2) (N:=5) rfl cx (λ_=>rfl) rfl rfl rfl rfl y) ?_;obtain⟨O,x,h⟩:=aa h;refine jb (bp rfl x) ?_;obtain⟨mc,e,h⟩:=aa h;refine jb (dW rfl Bl cx (am e).1 (am e).2) ?_;refine fr 3 ?_;refine aJ rfl rfl (gK (t:=Ti) (off:=0) (i:=y6.2) (N:=5) rfl cx .int rfl rfl rfl rfl (am e).1 (am e).2 rfl) ⟨rfl,rfl,trivial⟩ ?_;refine aF (aO (bn ?_));exact jz ((),List.set y6.1 (Int.toNat y6.2) O) h [1,3,0]
      .refine sr (mq ?_);refine lo iT ?_;iterate 2 refine mq ?_
       obtain⟨Q,E,h⟩:=aa h;refine cf rfl (aS [.tmp 50,.tmp 51,.tmp 52,.tmp 53] rfl rfl Oj rfl (jT hK k a0 a1 y6.2 a2 Q E)) ⟨rfl,rfl,rfl,rfl,trivial⟩ ?_;refine jb (jt rfl) ?_;refine nt (ci h (λh=>?_) (λh=>?_))
       .refine ab (mq ?_);obtain⟨gw,c,h⟩:=aa h;refine jb (dW rfl Bl cx (am c).1 (am c).2) ?_;refine fr 3 ?_;refine aJ rfl rfl (gK (t:=Ti) (off:=0) (i:=y6.2) (N:=5) rfl cx .int rfl rfl rfl rfl (am c).1 (am c).2 rfl) ⟨rfl,rfl,trivial⟩ ?_;refine aF (aO (bn ?_));exact jz ((),List.set y6.1 (Int.toNat y6.2) 0) h [1,3,0]
       .refine bf (aO (bn ?_));exact jz ((),y6.1) h [0,2,3]
     .refine bf (aO (bn ?_));exact jz ((),y6.1) h [0,1,2]
   .refine ab ?_;obtain⟨J,u,h⟩:=aa h;refine jb (bp rfl u) ?_;refine mq (nl ?_);exact jz ((),(x8,J)) h [0,1,2]
  .refine xa ?_;exact jz ((),y6.1) h [1,2]
 .
  refine sr (fr 1 ?_);refine lo iT ?_;refine fr 1 ?_;refine aJ rfl rfl (aE rfl iT rfl rfl rfl) ⟨rfl,rfl,trivial⟩ ?_;refine nt (ax ?_);obtain rfl:=Option.some.inj h;exact aP () [.rep Tr x4] 0 ⟨⟨_,_,_,_,_,rfl,(.head _),iT,(t7),rfl⟩,trivial⟩ rfl
def du{σ:Type}(k:Nat)(a0:Int)(a3:Int)(self:Int->Int->σ->Option (Bool×σ)):Nat->(Int×σ)->Option (Except (Bool×σ) (σ))
 |0,_=>none
 |n+1,y5=>
  if y5.1 < a3 then((eW k a0 y5.1).bind λr7=>
  (ck (y5.1+1)).bind λx8=>
  (self r7 x8 y5.2).bind λr9=>
  if¬(r9.1=true) then(some (.error (false,r9.2))) else((ck (y5.1+1)).bind λc=>
  du k a0 a3 self n (c,r9.2))) else(some (.ok y5.2))
def dy{σ:Type}(k:Nat)(Y:σ->Int->Option (σ×Bool))(a3:Int):Nat->Int->Int->σ->Option (Bool×σ)
 |0,_,_,_=>none
 |m0+1,a0,a1,s0=>
  (Y s0 a0).bind λr1=>
  if¬(r1.2=true) then(some (false,r1.1)) else(bE (α:=σ) (du k a0 a3 (dy k Y a3 m0) k (a1,r1.1)) (some) λx3=>
  some (true,x3))
theorem sG{M:Md Tryz.prog}{σ Z:Type}(E:Z->σ->List D)(l:Nat)(Y:σ->Int->Option (σ×Bool))(k:Nat)(u:Nat)(a3:Int)(j:Nat)(c:Nat)(hY:∀z s p r,Y s p=some r->YT M l [.eq (.int .u8 p)] (E z s) (λz':Z=>(.eq (.bool r.2),E z' r.1))):
 ∀(n:Nat) (a0:Int) (a1:Int) (z0:Z) (s0:σ) (r:Bool×σ),dy k Y a3 n a0 a1 s0=some r->bR M 107 [.eq (.int .u8 a0),I a1,Pt u,Pt j,Pt c] ([.obj u 137 (.eq (.func (.yield l) #[] #[])),.obj j 3 (I a3),.obj c 136 (.eq (.func (.func 107) #[] #[(Pv u),(Pv j),(Pv c)]))]++E z0 s0) (λz:Z=>(bM [.eq (.bool r.1)],[.obj u 137 (.eq (.func (.yield l) #[] #[])),.obj j 3 (I a3),.obj c 136 (.eq (.func (.func 107) #[] #[(Pv u),(Pv j),(Pv c)]))]++E z r.2)):=by
 intro n
 induction n with
 |zero=>intro a0 a1 z0 s0 r h;cases h
 |succ m0 ih=>
  intro a0 a1 z0 s0 r h;rw [dy] at h;replace h:=bh h;refine bR.of 27 Tryz.func107 rfl Tryz.ntmps107 rfl λS w0=>?_;refine sr (cq (nt (aj (sr ?_))));refine lo Q5 ?_;refine mq ?_;obtain⟨r1,U,h⟩:=aa h;refine fr 2 ?_;refine fr 2 ?_;refine fr 2 ?_;refine vu [.obj u 137 (.eq (.func (.yield l) #[] #[])),.obj j 3 (I a3),.obj c 136 (.eq (.func (.func 107) #[] #[(Pv u),(Pv j),(Pv c)]))] rfl rfl rfl (Dy [.tmp 10] rfl rfl rfl (hY z0 s0 a0 r1 U)) ⟨rfl,rfl,trivial⟩ λz2=>?_;refine ja (ic rfl) ?_;refine nt (cw h (λh=>?_) (λh=>?_))
  .refine sr (cq (nt (rx ?_)));cases h;exact mm z2 [_] ⟨rfl,trivial⟩ rfl
  .refine sk (dK (Z:=Z) (α:=σ) (λz4 x3=>[]) (λz4 x3=>[.obj u 137 (.eq (.func (.yield l) #[] #[])),.obj j 3 (I a3),.obj c 136 (.eq (.func (.func 107) #[] #[(Pv u),(Pv j),(Pv c)]))]++E z4 x3) (λe=>e=r) h (λe h=>Option.some.inj h) (λK hR h=>?_) (λz4 x3 h=>?_))
   .refine sr (mq ?_);refine aq (nt (ai ?_));refine aL (Z:=Z) (α:=Int×σ) (λz6 y5=>[(0,.eq (.int .u8 a0)),(3,Pt j),(4,Pt c),(8,I y5.1)]) (λz6 y5=>[.obj j 3 (I a3),.obj c 136 (.eq (.func (.func 107) #[] #[(Pv u),(Pv j),(Pv c)])),.obj u 137 (.eq (.func (.yield l) #[] #[]))]++E z6 y5.2) (du k a0 a3 (dy k Y a3 m0)) k z2 (a1,r1.1) (λ_=>rfl) h (f5 [.obj u 137 (.eq (.func (.yield l) #[] #[])),.obj j 3 (I a3),.obj c 136 (.eq (.func (.func 107) #[] #[(Pv u),(Pv j),(Pv c)]))] (E z2 r1.1) [1,2,0] ⟨rfl,rfl,rfl,rfl,trivial⟩ rfl) (λn z6 y5 h=>?_);unfold du at h;refine aj (sr (mq ?_));refine lo cx ?_;refine jb (bN rfl) ?_;refine nt (ci h (λh=>?_) (λh=>?_))
    .refine sk (aj (ai (aj (cV ?_))));refine ea 1 (aC rfl Ha nW rfl) ?_;refine dm ?_;refine dm ?_;obtain⟨r7,Q,h⟩:=aa h;refine db (ay [.tmp 20,.tmp 21] rfl rfl MD rfl (ix k a0 y5.1 r7 Q)) ?_;refine dm ?_;obtain⟨x8,J,h⟩:=aa h;refine db (bp rfl J) ?_;refine df dQ ?_;obtain⟨r9,O,h⟩:=aa h;refine fr 1 ?_;refine fr 1 ?_;refine fr 2 ?_;refine vv rfl rfl rfl (mR (fs:=[]) (cs:=[(Pv u),(Pv j),(Pv c)]) (ags:=[.eq (.int .u8 r7),I x8]) [.tmp 22,.tmp 24] rfl rfl Om rfl (ih r7 x8 z6 y5.2 r9 O)) ⟨rfl,rfl,rfl,trivial⟩ λx=>?_;refine ja (ic rfl) ?_;refine nt (cw h (λh=>?_) (λh=>?_))
     .refine sr (cq (nt (ax (br (ba (be ?_))))));obtain rfl:=hR _ h;exact mm x [_] ⟨rfl,trivial⟩ rfl
     .refine bf (aO (tn (ab (mq ?_))));obtain⟨F,y,h⟩:=aa h;refine jb (bp rfl y) ?_;refine aq (nl ?_);exact tg (x,(F,r9.2)) h (f5 [.obj u 137 (.eq (.func (.yield l) #[] #[])),.obj j 3 (I a3),.obj c 136 (.eq (.func (.func 107) #[] #[(Pv u),(Pv j),(Pv c)]))] (E x r9.2) [1,2,0] ⟨rfl,rfl,rfl,rfl,trivial⟩ rfl)
    .refine xa ?_;exact tg (z6,y5.2) h (f5 [.obj j 3 (I a3),.obj c 136 (.eq (.func (.func 107) #[] #[(Pv u),(Pv j),(Pv c)])),.obj u 137 (.eq (.func (.yield l) #[] #[]))] (E z6 y5.2) [2,0,1] trivial rfl)
   .refine sr (cq (nt (ax ?_)));cases h;exact mm z4 [_] ⟨rfl,trivial⟩ rfl
def jU{σ:Type}(k:Nat)(Y:σ->Int->Option (σ×Bool))(a1:Int)(s0:σ):Option (σ):=
 (dy k Y a1 k 0 0 s0).bind λr3=>
 some r3.2
theorem oM{M:Md Tryz.prog}{σ Z:Type}(E:Z->σ->List D)(l:Nat)(Y:σ->Int->Option (σ×Bool))(k:Nat)(a1:Int)(c:Nat)(hY:∀z s p r,Y s p=some r->YT M l [.eq (.int .u8 p)] (E z s) (λz':Z=>(.eq (.bool r.2),E z' r.1))):
 ∀(z0:Z) (s0:σ) (r:σ),jU k Y a1 s0=some r->bR M 106 [.eq (.func (.yield l) #[] #[]),Pt c] ([.obj c 3 (I a1)]++E z0 s0) (λz:Z=>(bM [],[.obj c 3 (I a1)]++E z r)):=by
 intro z0 s0 r h
 unfold jU at h
 replace h:=bh h
 refine bR.of 7 Tryz.func106 rfl Tryz.ntmps106 rfl λS w0=>?_
 refine sr ?_
 refine bx λb1=>?_
 refine nt ?_
 refine sr ?_
 refine aW rfl rfl rfl (bb rfl QU S7) trivial λb2=>?_
 refine nt ?_
 refine sr ?_
 refine jc (oG [] [.tmp 2,.tmp 1,.tmp 3] [] [(Pv b1),(Pv c),(Pv b2)] rfl rfl rfl) ?_
 refine aJ rfl rfl (aE rfl Ha rfl rfl rfl) ⟨rfl,rfl,trivial⟩ ?_
 refine nt ?_
 refine ab ?_
 refine lo Ha ?_
 obtain⟨r3,e,h⟩:=aa h
 have j:=sG E l Y k b1 a1 c b2 hY k 0 0 z0 s0 r3 e
 refine fr 2 ?_
 refine fr 2 ?_
 refine vv rfl rfl rfl (mR (fs:=[]) (cs:=[(Pv b1),(Pv c),(Pv b2)]) (ags:=[.eq (.int .u8 0),I 0]) [.const (.int .u8 (0)),.const (.int .i64 (0))] rfl rfl Om rfl j) ⟨rfl,rfl,rfl,trivial⟩ λz4=>?_
 refine aF ?_
 refine jp ?_
 refine bF (f5 (Γ':=[]) [.obj b1 137 (.eq (.func (.yield l) #[] #[])),.obj c 3 (I a1),.obj b2 136 (.eq (.func (.func 107) #[] #[(Pv b1),(Pv c),(Pv b2)]))] (E z4 r3.2) [1] trivial rfl) ?_
 cases h
 exact mm z4 [] trivial rfl
theorem rC(a0:Int):dD Tryz.prog 73 [I a0] [] (λz:Nat=>(bM [.eq (.func (.func 106) #[] #[(Pv z)])],[.obj z 3 (I a0)])):=by
 refine dD.of 4 Tryz.func73 rfl Tryz.ntmps73 rfl λS w0=>?_;refine sr (bx λz=>?_);refine cq (nt (sr ?_));refine ja (oG [] [.tmp 1] [] [(Pv z)] rfl rfl rfl) ?_;refine aq (nt (ax ?_));exact aP z [_] 1 ⟨rfl,trivial⟩ rfl
def dE(k:Nat)(a0:Int):Nat->((List Int)×Int)->Option (List Int)
 |0,_=>none
 |n+1,y3=>
  if y3.2 < 5 then((((eX k a0 y3.2).bind λr7=>
  if r7=true then((cP (bW (length y3.1+length [y3.2]))).bind λ_=>
  some (y3.1++[y3.2])) else(some y3.1)):Option ((List Int))).bind λx5=>
  (ck (y3.2+1)).bind λc=>
  dE k a0 n (x5,c)) else(some y3.1)
def fU(k:Nat)(a0:Int):Option (List Int):=
 ((dE k a0 k (([]:(List Int)),0)):Option ((List Int))).bind λx1=>
 some x1
theorem kw(k:Nat)(a0:Int)(r:(List Int))(h:fU k a0=some r):
 dD Tryz.prog 39 [.eq (.int .u8 a0)] [] (λ_:Unit=>(bM [.rep Tl r],[])):=by
 unfold fU at h
 replace h:=bh h
 refine dD.of 17 Tryz.func39 rfl Tryz.ntmps39 rfl λS w0=>?_
 refine sr ?_
 refine cq ?_
 refine nt ?_
 refine sr ?_
 refine cq ?_
 refine nt ?_
 refine aM (Z:=Value) (α:=(List Int)) (λz2 x1=>[(3,.eq z2)]) (λz2 x1=>[.sl z2 3 Ti x1]) h (λK h=>?_) (λz2 x1 h=>?_)
 .
  refine sr (eH rfl ?_);refine nt (ai (iO (SE.nil 3 Ti) ?_));refine aL (λz4 y3=>[(0,.eq (.int .u8 a0)),(3,.eq z4),(5,I y3.2)]) (λz4 y3=>[.sl z4 3 Ti y3.1]) (dE k a0) k (.slice none 0 0) (([]:(List Int)),0) (λ_=>rfl) h (SE.fin [0] ⟨rfl,rfl,rfl,trivial⟩ rfl) (λn z4 y3 h=>?_);unfold dE at h;refine sr (jb (bN rfl) ?_);refine nt (aj (ci h (λh=>?_) (λh=>?_)))
  .refine sk (aM (Z:=Value) (α:=(List Int)) (λz6 x5=>[(0,.eq (.int .u8 a0)),(3,.eq z6),(5,I y3.2)]) (λz6 x5=>[.sl z6 3 Ti x5]) h (λK h=>?_) (λz6 x5 h=>?_))
   .refine ai (sr (mq ?_));refine aq (nt (sr ?_));iterate 2 refine mq ?_
    obtain⟨r7,l,h⟩:=aa h;refine jb (ay [.tmp 8,.tmp 9] rfl rfl IX rfl (gQ k a0 y3.2 r7 l)) ?_;refine nt (cv h (λh=>?_) (λh=>?_))
    .refine ab ?_;iterate 2 refine mq ?_
     refine ja (bj (t:=Ti) [(.tmp 12,_)] [y3.2] rfl rfl dL (.cons rfl .int .nil) rfl rfl) ?_;obtain⟨u8,j,h⟩:=aa h;refine eG rfl rfl rfl (cO rfl rfl dL (am j)) ⟨rfl,rfl,trivial⟩ λv9=>?_;refine aq (aF (bn ?_));exact jz (v9,y3.1++[y3.2]) h [0]
    .refine bf (bn ?_);exact jz (z4,y3.1) h [0]
   .refine ab ?_;obtain⟨e,c,h⟩:=aa h;refine jb (bp rfl c) ?_;refine mq (nl ?_);exact jz (z6,(x5,e)) h [0]
  .refine xa ?_;exact jz (z4,y3.1) h [0]
 .
  refine sr (mq ?_);refine aq (nt (ax ?_));refine bF (jo [2,3,16] ⟨rfl,rfl,rfl,trivial⟩) ?_;cases h;exact ra
def dx(k:Nat)(a0:List Int):Option (List Int):=
 (cP (bW (length a0))).bind λ_=>some a0
theorem mM(k:Nat)(a0:List Int)(r:List Int)(h:dx k a0=some r):
 dD Tryz.prog 41 [.rep Tl a0] [] (λz:Value=>(bM [.eq z],[.sl z 3 Ti r])):=by
 unfold dx at h
 replace h:=bh h
 refine dD.of 8 Tryz.func41 rfl Tryz.ntmps41 rfl λS w0=>?_
 obtain⟨u1,c,h⟩:=aa h
 cases h
 refine sr ?_
 refine cq ?_
 refine nt ?_
 refine aj ?_
 refine sr ?_
 refine mq ?_
 refine aN (Δ:=[]) (F:=_) (λ_ _ _=>ag rfl _) rfl rfl (Ll rfl ie) ⟨rfl,rfl,trivial⟩ λb=>?_
 refine nt ?_
 refine jq rfl (λhb=>?_) (λhb=>?_)
 .
  refine sr (cq (nt (rx ?_)));obtain rfl:=b.2 hb;refine bF (SE.nil 3 Ti) ?_;exact aP (.slice none 0 0) [.eq (.slice none 0 0)] 1 ⟨rfl,trivial⟩ rfl
 .
  refine sk (sr (aW rfl rfl rfl (nn (t:=Ti) [] [] rfl rfl dL .nil rfl rfl) trivial λv1=>?_));refine mq ?_;refine eG rfl rfl rfl (cO rfl rfl dL (by simpa using am c)) ⟨rfl,rfl,trivial⟩ λv2=>?_;refine aq (nt (ax ?_));exact aP v2 [.eq v2] 1 ⟨rfl,trivial⟩ rfl
def fg(k:Nat)(a0:ae)(a1:(List (List Int))):Nat->Int->Option (Except Bool Unit)
 |0,_=>none
 |n+1,y5=>
  if y5 < (a1.length:Int) then((aR a1 y5).bind λx7=>
  if¬((x7.length:Int)=a0.1) then(some (.error false)) else((ck (y5+1)).bind λx8=>
  fg k a0 a1 n x8)) else(some (.ok ()))
def mY(k:Nat)(a0:ae)(a1:(List (List Int))):Option Bool:=
 (ck ((a0.2.2.2.2.1.length:Int)+1)).bind λx2=>
 if¬((a1.length:Int)=x2) then(some false) else(bE (α:=Unit) (fg k a0 a1 k 0) (some) λ_=>
 some true)
theorem ye(k:Nat)(a0:ae)(a1:(List (List Int)))(r:Bool)(h:mY k a0 a1=some r):
 dD Tryz.prog 13 [.rep an a0,.rep (.slice Tl) a1] [] (λ_:Unit=>(bM [.eq (.bool r)],[])):=by
 unfold mY at h
 replace h:=bh h
 refine dD.of 27 Tryz.func13 rfl Tryz.ntmps13 rfl λS w0=>?_
 refine sr ?_
 refine bx λb1=>?_
 refine cq ?_
 refine nt ?_
 refine aj ?_
 refine sr ?_
 refine mq ?_
 refine ol ta ?_
 refine fl eO ?_
 refine lo lR ?_
 refine ol Bm ?_
 obtain⟨x2,l,h⟩:=aa h
 refine jb (bp rfl l) ?_
 refine jb (dZ rfl) ?_
 refine nt ?_
 refine cn h (λh=>?_) (λh=>?_)
 .
  refine sr (cq (nt (rx ?_)));cases h;exact ra
 .
  refine sk (dK (Z:=Unit) (α:=Unit) (λz4 x3=>[]) (λz4 x3=>[]) (λe=>e=r) h (λe h=>Option.some.inj h) (λK hR h=>?_) (λz4 x3 h=>?_))
  .refine sr (cq (nt (ai ?_)));refine aL (λz6 y5=>[(1,.rep (.slice Tl) a1),(2,Pt b1),(5,I y5)]) (λz6 y5=>[.obj b1 26 (.rep an a0)]) (fg k a0 a1) k () 0 (λ_=>rfl) h (SE.fin [0] ⟨rfl,rfl,rfl,trivial⟩ rfl) (λn z6 y5 h=>?_);unfold fg at h;refine aj (sr ?_);iterate 2 refine mq ?_
   refine ol ta ?_;refine jb (bN rfl) ?_;refine nt (ci h (λh=>?_) (λh=>?_))
   .refine sk (aj (ai (aj (cV ?_))));refine dm ?_;refine dm ?_;obtain⟨x7,j,h⟩:=aa h;refine db (aX (t:=Tl) rfl ta gG j) ?_;refine da (au (t:=Tl) rfl gG rfl) ?_;refine da (rj rfl rfl ie) ?_;refine da (aH rfl gr) ?_;refine ea 0 (aC rfl cx nW rfl) ?_;refine df dQ ?_;refine jb (dZ rfl) ?_;refine nt (cn h (λh=>?_) (λh=>?_))
    .refine sr (cq (nt (ax (br (ba (be ?_))))));obtain rfl:=hR _ h;exact ra
    .refine bf (aO (tn (ab (mq ?_))));obtain⟨x8,c,h⟩:=aa h;refine jb (bp rfl c) ?_;refine aq (nl ?_);exact jz ((),x8) h [0]
   .refine xa ?_;exact jz ((),()) h []
  .refine sr (cq (nt (ax ?_)));cases h;exact ra
def iK(k:Nat)(a0:Int)(a1:Int):Option Int:=
 if a0=a1 then((ck (0+1)).bind λx1=>
 (ck (x1+1)).bind λx2=>
 if x2=0 then(some 2) else(if x2=1 then(some 3) else(some 1))) else(if 0 < a0 then((ck (0+1)).bind λx3=>
 if x3=0 then(some 2) else(if x3=1 then(some 3) else(some 1))) else(if 0=0 then(some 2) else(if 0=1 then(some 3) else(some 1))))
theorem uK(k:Nat)(a0:Int)(a1:Int)(r:Int)(h:iK k a0 a1=some r):
 dD Tryz.prog 43 [I a0,I a1] [] (λ_:Unit=>(bM [I r],[])):=by
 unfold iK at h
 replace h:=bh h
 refine dD.of 22 Tryz.func43 rfl Tryz.ntmps43 rfl λS w0=>?_
 refine sr ?_
 refine cq ?_
 refine nt ?_
 refine sr ?_
 refine cq ?_
 refine nt ?_
 refine aj ?_
 refine ai ?_
 refine aj ?_
 refine ai ?_
 refine aj ?_
 refine ai ?_
 refine aj ?_
 refine aj ?_
 refine sr ?_
 iterate 2 refine mq ?_
 refine jb (gx rfl) ?_
 refine aq ?_
 refine nt ?_
 refine ci h (λh=>?_) (λh=>?_)
 .
  refine d5 (bv (bv (cu (tn (ab (mq ?_))))));obtain⟨x1,j,h⟩:=aa h;refine jb (bp rfl j) ?_;refine aq (aF (aO (tn (sr ?_))));refine mq ?_;obtain⟨x2,e,h⟩:=aa h;refine jb (bp rfl e) ?_;refine aq (nt (d5 (cu (tn (aj (sr ?_))))));refine mq (nt (ai (sr ?_)));refine jb (gx rfl) ?_;refine aq (nt ?_);refine ci h (λh=>?_) (λh=>?_)
  .refine sr (cq (nt (ax (ba (be ?_)))));cases h;exact ra
  .refine sr (jb (gx rfl) ?_);refine aq (nt ?_);refine ci h (λh=>?_) (λh=>?_)
   .refine sr (cq (nt (ax (ba (be ?_)))));cases h;exact ra
   .refine bf (aO (tn (sr (cq (nt (ax ?_))))));cases h;exact ra
 .
  refine sk (sr (mq ?_));refine jb (kB rfl) ?_;refine aq (nt ?_);refine ci h (λh=>?_) (λh=>?_)
  .refine d5 (bv (o0 (eq_false (by decide)) ?_));refine bv (cu (tn (sr (mq ?_))));obtain⟨x3,c,h⟩:=aa h;refine jb (bp rfl c) ?_;refine aq (nt (d5 (cu (tn (aj (sr ?_))))));refine mq (nt (ai (sr ?_)));refine jb (gx rfl) ?_;refine aq (nt ?_);refine ci h (λh=>?_) (λh=>?_)
   .refine sr (cq (nt (ax (ba (be ?_)))));cases h;exact ra
   .refine sr (jb (gx rfl) ?_);refine aq (nt ?_);refine ci h (λh=>?_) (λh=>?_)
    .refine sr (cq (nt (ax (ba (be ?_)))));cases h;exact ra
    .refine bf (aO (tn (sr (cq (nt (ax ?_))))));cases h;exact ra
  .refine sk (d5 (o0 (eq_false (by decide)) ?_));refine bv (o0 (eq_false (by decide)) ?_);refine bv (cu (tn (aj (sr (mq (nt (ai (sr ?_))))))));refine jb (gx rfl) ?_;refine aq (nt ?_);refine ci h (λh=>?_) (λh=>?_)
   .refine sr (cq (nt (ax (ba (be ?_)))));cases h;exact ra
   .refine sr (jb (gx rfl) ?_);refine aq (nt ?_);refine ci h (λh=>?_) (λh=>?_)
    .refine sr (cq (nt (ax (ba (be ?_)))));cases h;exact ra
    .refine bf (aO (tn (sr (cq (nt (ax ?_))))));cases h;exact ra
def iU(k:Nat)(a0:(List Int)):Nat->(Int×Int)->Option Int
 |0,_=>none
 |n+1,y4=>
  if y4.2 < (a0.length:Int) then((aR a0 y4.2).bind λx6=>
  (ck (y4.2+1)).bind λx7=>
  iU k a0 n (IC y4.1 x6,x7)) else(some y4.1)
def lW(k:Nat)(a0:(List Int)):Option Int:=
 if(a0.length:Int) < 1 then(none) else((aR a0 0).bind λx1=>
 ((iU k a0 k (x1,1)):Option (Int)).bind λx2=>
 some x2)
theorem ot(k:Nat)(a0:(List Int))(r:Int)(h:lW k a0=some r):
 dD Tryz.prog 45 [.rep Tl a0] [] (λ_:Unit=>(bM [I r],[])):=by
 unfold lW at h
 replace h:=bh h
 refine dD.of 25 Tryz.func45 rfl Tryz.ntmps45 rfl λS w0=>?_
 refine sr ?_
 refine cq ?_
 refine nt ?_
 refine aj ?_
 refine sr ?_
 refine mq ?_
 refine ol ie ?_
 refine jb (bN rfl) ?_
 refine nt ?_
 refine ci h (λh=>?_) (λh=>?_)
 .
  cases h
 .
  refine sk (sr (mq ?_));obtain⟨x1,j,h⟩:=aa h;refine jb (aX (t:=Ti) rfl ie cx j) ?_;refine ja (au (t:=Ti) rfl cx rfl) ?_;refine aq (nt ?_);refine aM (Z:=Unit) (α:=Int) (λz3 x2=>[(3,I x2)]) (λz3 x2=>[]) h (λK h=>?_) (λz3 x2 h=>?_)
  .refine sr (cq (nt (ai ?_)));refine aL (λz5 y4=>[(0,.rep Tl a0),(3,I y4.1),(4,I y4.2)]) (λz5 y4=>[]) (iU k a0) k () (x1,1) (λ_=>rfl) h (SE.fin [] ⟨rfl,rfl,rfl,trivial⟩ rfl) (λn z5 y4 h=>?_);unfold iU at h;refine aj (sr ?_);iterate 2 refine mq ?_
   refine ol ie ?_;refine jb (bN rfl) ?_;refine nt (ci h (λh=>?_) (λh=>?_))
   .refine sk (aj (ai (ab ?_)));iterate 3 refine mq ?_
    obtain⟨x6,e,h⟩:=aa h;refine jb (aX (t:=Ti) rfl ie cx e) ?_;refine ja (au (t:=Ti) rfl cx rfl) ?_;refine jb (Rn rfl rfl) ?_;refine aq (aF (aO (tn (ab ?_))));refine mq ?_;obtain⟨x7,c,h⟩:=aa h;refine jb (bp rfl c) ?_;refine aq (nl ?_);exact jz ((),(IC y4.1 x6,x7)) h []
   .refine xa ?_;exact jz ((),y4.1) h []
  .refine sr (mq ?_);refine aq (nt (ax ?_));cases h;exact ra
def iV(k:Nat)(a0:(List Int)):Nat->(Int×Int)->Option Int
 |0,_=>none
 |n+1,y4=>
  if y4.2 < (a0.length:Int) then((aR a0 y4.2).bind λx6=>
  (ck (y4.2+1)).bind λx7=>
  iV k a0 n (sR y4.1 x6,x7)) else(some y4.1)
def ou(k:Nat)(a0:(List Int)):Option Int:=
 if(a0.length:Int) < 1 then(none) else((aR a0 0).bind λx1=>
 ((iV k a0 k (x1,1)):Option (Int)).bind λx2=>
 some x2)
theorem uk(k:Nat)(a0:(List Int))(r:Int)(h:ou k a0=some r):
 dD Tryz.prog 46 [.rep Tl a0] [] (λ_:Unit=>(bM [I r],[])):=by
 unfold ou at h
 replace h:=bh h
 refine dD.of 25 Tryz.func46 rfl Tryz.ntmps46 rfl λS w0=>?_
 refine sr ?_
 refine cq ?_
 refine nt ?_
 refine aj ?_
 refine sr ?_
 refine mq ?_
 refine ol ie ?_
 refine jb (bN rfl) ?_
 refine nt ?_
 refine ci h (λh=>?_) (λh=>?_)
 .
  cases h
 .
  refine sk (sr (mq ?_));obtain⟨x1,j,h⟩:=aa h;refine jb (aX (t:=Ti) rfl ie cx j) ?_;refine ja (au (t:=Ti) rfl cx rfl) ?_;refine aq (nt ?_);refine aM (Z:=Unit) (α:=Int) (λz3 x2=>[(3,I x2)]) (λz3 x2=>[]) h (λK h=>?_) (λz3 x2 h=>?_)
  .refine sr (cq (nt (ai ?_)));refine aL (λz5 y4=>[(0,.rep Tl a0),(3,I y4.1),(4,I y4.2)]) (λz5 y4=>[]) (iV k a0) k () (x1,1) (λ_=>rfl) h (SE.fin [] ⟨rfl,rfl,rfl,trivial⟩ rfl) (λn z5 y4 h=>?_);unfold iV at h;refine aj (sr ?_);iterate 2 refine mq ?_
   refine ol ie ?_;refine jb (bN rfl) ?_;refine nt (ci h (λh=>?_) (λh=>?_))
   .refine sk (aj (ai (ab ?_)));iterate 3 refine mq ?_
    obtain⟨x6,e,h⟩:=aa h;refine jb (aX (t:=Ti) rfl ie cx e) ?_;refine ja (au (t:=Ti) rfl cx rfl) ?_;refine jb (HQ rfl rfl) ?_;refine aq (aF (aO (tn (ab ?_))));refine mq ?_;obtain⟨x7,c,h⟩:=aa h;refine jb (bp rfl c) ?_;refine aq (nl ?_);exact jz ((),(sR y4.1 x6,x7)) h []
   .refine xa ?_;exact jz ((),y4.1) h []
  .refine sr (mq ?_);refine aq (nt (ax ?_));cases h;exact ra
def dH(k:Nat)(a0:(List Int))(a1:(List Int)):Nat->Int->Option (Except Bool Unit)
 |0,_=>none
 |n+1,y3=>
  if y3 < (a0.length:Int) then((aR a0 y3).bind λx5=>
  (aR a1 y3).bind λx6=>
  if¬(x5=x6) then(some (.error false)) else((ck (y3+1)).bind λx7=>
  dH k a0 a1 n x7)) else(some (.ok ()))
def fi(k:Nat)(a0:(List Int))(a1:(List Int)):Option Bool:=
 if¬((a0.length:Int)=(a1.length:Int)) then(some false) else(bE (α:=Unit) (dH k a0 a1 k 0) (some) λ_=>
 some true)
theorem iD(k:Nat)(a0:(List Int))(a1:(List Int))(r:Bool)(h:fi k a0 a1=some r):
 dD Tryz.prog 32 [.rep Tl a0,.rep Tl a1] [] (λ_:Unit=>(bM [.eq (.bool r)],[])):=by
 unfold fi at h
 replace h:=bh h
 refine dD.of 26 Tryz.func32 rfl Tryz.ntmps32 rfl λS w0=>?_
 refine sr ?_
 refine cq ?_
 refine nt ?_
 refine aj ?_
 refine sr ?_
 refine mq ?_
 refine ol ie ?_
 refine mq ?_
 refine ol ie ?_
 refine jb (dZ rfl) ?_
 refine nt ?_
 refine cn h (λh=>?_) (λh=>?_)
 .
  refine sr (cq (nt (rx ?_)));cases h;exact ra
 .
  refine sk (dK (Z:=Unit) (α:=Unit) (λz2 x1=>[]) (λz2 x1=>[]) (λe=>e=r) h (λe h=>Option.some.inj h) (λK hR h=>?_) (λz2 x1 h=>?_))
  .refine sr (cq (nt (ai ?_)));refine aL (λz4 y3=>[(0,.rep Tl a0),(1,.rep Tl a1),(5,I y3)]) (λz4 y3=>[]) (dH k a0 a1) k () 0 (λ_=>rfl) h (SE.fin [] ⟨rfl,rfl,rfl,trivial⟩ rfl) (λn z4 y3 h=>?_);unfold dH at h;refine aj (sr ?_);iterate 2 refine mq ?_
   refine ol ie ?_;refine jb (bN rfl) ?_;refine nt (ci h (λh=>?_) (λh=>?_))
   .refine sk (aj (ai (aj (cV ?_))));refine dm ?_;refine dm ?_;obtain⟨x5,l,h⟩:=aa h;refine db (aX (t:=Ti) rfl ie cx l) ?_;refine da (au (t:=Ti) rfl cx rfl) ?_;refine dm ?_;refine dm ?_;obtain⟨x6,j,h⟩:=aa h;refine db (aX (t:=Ti) rfl ie cx j) ?_;refine da (au (t:=Ti) rfl cx rfl) ?_;refine df dQ ?_;refine jb (dZ rfl) ?_;refine nt (cn h (λh=>?_) (λh=>?_))
    .refine sr (cq (nt (ax (br (ba (be ?_))))));obtain rfl:=hR _ h;exact ra
    .refine bf (aO (tn (ab (mq ?_))));obtain⟨x7,c,h⟩:=aa h;refine jb (bp rfl c) ?_;refine aq (nl ?_);exact jz ((),x7) h []
   .refine xa ?_;exact jz ((),()) h []
  .refine sr (cq (nt (ax ?_)));cases h;exact ra
def lE(k:Nat)(a0:Int)(a1:Int)(a2:Bool):Option bq:=
 some (a0,a1,a2)
theorem mr(k:Nat)(a0:Int)(a1:Int)(a2:Bool)(r:bq)(h:lE k a0 a1 a2=some r):
 dD Tryz.prog 27 [I a0,I a1,.eq (.bool a2)] [] (λ_:Unit=>(bM [.rep bz r],[])):=by
 unfold lE at h
 replace h:=bh h
 refine dD.of 11 Tryz.func27 rfl Tryz.ntmps27 rfl λS w0=>?_
 refine sr ?_
 refine aW rfl rfl rfl (bb rfl Bn Jj) trivial λb1=>?_
 refine nt ?_
 refine sr ?_
 iterate 3 refine mq ?_
 refine jc (eh [(0,.tmp 7,_),(1,.tmp 8,_),(2,.tmp 9,_)] rfl Rb Bn Ov (jO ⟨rfl,rfl,rfl,trivial⟩) rfl) ?_
 refine aJ rfl rfl (aE rfl sb trivial rfl rfl) ⟨rfl,rfl,trivial⟩ ?_
 refine nt ?_
 refine ax ?_
 refine bF (fq (a:=.agg (.pair (I a0) (.pair (I a1) (.eq (.bool a2))))) (a':=.rep bz (a0,a1,a2)) (gY (.agg (.pair .int (.pair .int .bool))))) ?_
 cases h
 exact aP () [.rep bz (a0,a1,a2)] 0 ⟨⟨_,_,_,_,_,rfl,(.head _),sb,(t7),rfl⟩,trivial⟩ rfl
def iN(k:Nat)(a0:(List bq)):Option ae:=
 (lE k 1 2 true).bind λr2=>
 (lE k 2 1 false).bind λr3=>
 (lE k 3 3 false).bind λr4=>
 (cP (bW (length [r2,r3,r4]+length a0))).bind λ_=>
 some (4,1,1,2,[[[0,1,2],[3]],[[0,1],[2,3]],[[1,2,3]],[[1,3],[2]]],[r2,r3,r4]++a0)
theorem g9(k:Nat)(a0:(List bq))(r:ae)(h:iN k a0=some r):
 dD Tryz.prog 47 [Rs bz a0] [] (λ_:Unit=>(bM [.rep an r],[])):=by
 unfold iN at h
 replace h:=bh h
 refine dD.of 24 Tryz.func47 rfl Tryz.ntmps47 rfl λS w0=>?_
 refine sr ?_
 refine aW rfl rfl rfl (bb rfl yV FT) trivial λb1=>?_
 refine nt ?_
 refine sr ?_
 obtain⟨r2,l,h⟩:=aa h
 have u:=mr k 1 2 true r2 l
 refine jc (ay [.const (.int .i64 (1)),.const (.int .i64 (2)),.const (.bool true)] rfl rfl P5 rfl u) ?_
 obtain⟨r3,j,h⟩:=aa h
 have s:=mr k 2 1 false r3 j
 refine jc (ay [.const (.int .i64 (2)),.const (.int .i64 (1)),.const (.bool false)] rfl rfl P5 rfl s) ?_
 obtain⟨r4,e,h⟩:=aa h
 have n:=mr k 3 3 false r4 e
 refine jc (ay [.const (.int .i64 (3)),.const (.int .i64 (3)),.const (.bool false)] rfl rfl P5 rfl n) ?_
 refine aW rfl rfl rfl (nn (t:=bz) [(.tmp 4,_),(.tmp 5,_),(.tmp 6,_)] [r2,r3,r4] rfl rfl KY (.cons rfl .rep (.cons rfl .rep (.cons rfl .rep .nil))) rfl rfl) ⟨rfl,rfl,rfl,trivial⟩ λv5=>?_
 refine aq ?_
 refine nt ?_
 refine sr ?_
 refine jc (bj (t:=Ti) [(.const (.int .i64 (0)),_),(.const (.int .i64 (1)),_),(.const (.int .i64 (2)),_)] [0,1,2] rfl rfl dL (.cons rfl .int (.cons rfl .int (.cons rfl .int .nil))) rfl rfl) ?_
 refine ja (bj (t:=Ti) [(.const (.int .i64 (3)),_)] [3] rfl rfl dL (.cons rfl .int .nil) rfl rfl) ?_
 refine jb (bj (t:=Tl) [(.tmp 8,_),(.tmp 9,_)] [[0,1,2],[3]] rfl rfl pM (.cons rfl .rep (.cons rfl .rep .nil)) rfl rfl) ?_
 refine jb (bj (t:=Ti) [(.const (.int .i64 (0)),_),(.const (.int .i64 (1)),_)] [0,1] rfl rfl dL (.cons rfl .int (.cons rfl .int .nil)) rfl rfl) ?_
 refine jb (bj (t:=Ti) [(.const (.int .i64 (2)),_),(.const (.int .i64 (3)),_)] [2,3] rfl rfl dL (.cons rfl .int (.cons rfl .int .nil)) rfl rfl) ?_
 refine jb (bj (t:=Tl) [(.tmp 11,_),(.tmp 12,_)] [[0,1],[2,3]] rfl rfl pM (.cons rfl .rep (.cons rfl .rep .nil)) rfl rfl) ?_
 refine jc (bj (t:=Ti) [(.const (.int .i64 (1)),_),(.const (.int .i64 (2)),_),(.const (.int .i64 (3)),_)] [1,2,3] rfl rfl dL (.cons rfl .int (.cons rfl .int (.cons rfl .int .nil))) rfl rfl) ?_
 refine ja (bj (t:=Tl) [(.tmp 14,_)] [[1,2,3]] rfl rfl pM (.cons rfl .rep .nil) rfl rfl) ?_
 refine jb (bj (t:=Ti) [(.const (.int .i64 (1)),_),(.const (.int .i64 (3)),_)] [1,3] rfl rfl dL (.cons rfl .int (.cons rfl .int .nil)) rfl rfl) ?_
 refine ja (bj (t:=Ti) [(.const (.int .i64 (2)),_)] [2] rfl rfl dL (.cons rfl .int .nil) rfl rfl) ?_
 refine jb (bj (t:=Tl) [(.tmp 16,_),(.tmp 17,_)] [[1,3],[2]] rfl rfl pM (.cons rfl .rep (.cons rfl .rep .nil)) rfl rfl) ?_
 refine cf rfl (bj (t:=(.slice Tl)) [(.tmp 10,_),(.tmp 13,_),(.tmp 15,_),(.tmp 18,_)] [[[0,1,2],[3]],[[0,1],[2,3]],[[1,2,3]],[[1,3],[2]]] rfl rfl BG (.cons rfl .rep (.cons rfl .rep (.cons rfl .rep (.cons rfl .rep .nil)))) rfl rfl) ⟨rfl,rfl,rfl,rfl,trivial⟩ ?_
 iterate 2 refine mq ?_
 obtain⟨u6,c,h⟩:=aa h
 refine eG rfl rfl rfl (cO rfl rfl KY (am c)) ⟨rfl,rfl,trivial⟩ λv7=>?_
 refine eF (jo [22] ⟨rfl,trivial⟩) ?_
 refine cf rfl (eh [(0,.const (.int .i64 (4)),_),(1,.const (.int .i64 (1)),_),(2,.const (.int .i64 (1)),_),(3,.const (.int .i64 (2)),_),(4,.tmp 19,_),(5,.tmp 22,_)] rfl Re yV Ox (jO ⟨rfl,rfl,rfl,rfl,rfl,rfl,trivial⟩) rfl) ⟨rfl,rfl,rfl,rfl,rfl,rfl,trivial⟩ ?_
 refine aJ rfl rfl (aE rfl gC trivial rfl rfl) ⟨rfl,rfl,trivial⟩ ?_
 refine nt ?_
 refine ax ?_
 refine bF (fq (a:=.agg (.pair (I 4) (.pair (I 1) (.pair (I 1) (.pair (I 2) (.pair (.rep (.slice (.slice Tl)) [[[0,1,2],[3]],[[0,1],[2,3]],[[1,2,3]],[[1,3],[2]]]) (Rs bz ([r2,r3,r4]++a0)))))))) (a':=.rep an (4,1,1,2,[[[0,1,2],[3]],[[0,1],[2,3]],[[1,2,3]],[[1,3],[2]]],[r2,r3,r4]++a0)) (gY (.agg (.pair .int (.pair .int (.pair .int (.pair .int (.pair .rep .rep)))))))) ?_
 cases h
 exact aP () [.rep an (4,1,1,2,[[[0,1,2],[3]],[[0,1],[2,3]],[[1,2,3]],[[1,3],[2]]],[r2,r3,r4]++a0)] 0 ⟨⟨_,_,_,_,_,rfl,(.head _),gC,(t7),rfl⟩,trivial⟩ rfl
def fP(k:Nat):Nat->((List Int)×Int×Int)->Option (List Int)
 |0,_=>none
 |n+1,y2=>
  if y2.2.1 < y2.2.2 then((aR y2.1 y2.2.2).bind λx4=>
  (aR y2.1 y2.2.1).bind λx5=>
  (aR y2.1 y2.2.1).bind λx6=>
  (aR (List.set y2.1 (Int.toNat y2.2.1) x4) y2.2.2).bind λx7=>
  (ck (y2.2.1+1)).bind λx8=>
  (ck (y2.2.2 - 1)).bind λx9=>
  fP k n (List.set (List.set y2.1 (Int.toNat y2.2.1) x4) (Int.toNat y2.2.2) x5,x8,x9)) else(some y2.1)
def km(k:Nat)(a0:(List Int)):Option (List Int):=
 (ck ((a0.length:Int) - 1)).bind λx1=>
 fP k k (a0,0,x1)
theorem qg(k:Nat)(a0:(List Int))(c:Value)(r:(List Int))(h:km k a0=some r):
 dD Tryz.prog 81 [.eq c] [.sl c 3 Ti a0] (λ_:Unit=>(bM [],[.sl c 3 Ti r])):=by
 unfold km at h
 replace h:=bh h
 refine dD.of 28 Tryz.func81 rfl Tryz.ntmps81 rfl λS w0=>?_
 refine sr ?_
 refine mq ?_
 refine ka (mP rfl rfl ie) ?_
 obtain⟨x1,mc,h⟩:=aa h
 refine jb (eM rfl mc) ?_
 refine cq ?_
 refine aq ?_
 refine nt ?_
 refine ai ?_
 refine aL (λz3 y2=>[(0,.eq c),(2,I y2.2.1),(3,I y2.2.2)]) (λz3 y2=>[.sl c 3 Ti y2.1]) (fP k) k () (a0,0,x1) (λ_=>rfl) h (SE.fin [0] ⟨rfl,rfl,rfl,trivial⟩ rfl) (λn z3 y2 h=>?_)
 unfold fP at h
 refine aj ?_
 refine sr ?_
 iterate 2 refine mq ?_
 refine jb (bN rfl) ?_
 refine nt ?_
 refine ci h (λh=>?_) (λh=>?_)
 .
  refine sk (aj (ai (o5 ?_)));refine bK rfl rfl rfl (aV rfl) ⟨rfl,trivial⟩ ?_;refine bK rfl rfl rfl (aV rfl) ⟨rfl,trivial⟩ ?_;refine bK rfl rfl rfl (aV rfl) ⟨rfl,trivial⟩ ?_;refine bK rfl rfl rfl (aV rfl) ⟨rfl,trivial⟩ ?_;refine bK rfl rfl rfl (aV rfl) ⟨rfl,trivial⟩ ?_;refine bK rfl rfl rfl (aV rfl) ⟨rfl,trivial⟩ ?_;obtain⟨x4,D,h⟩:=aa h;refine gX 0 rfl rfl rfl rfl (cM (t:=Ti) rfl ie cx D) ⟨rfl,rfl,trivial⟩ ?_;refine gX 0 rfl rfl rfl rfl (g7 (i:=Int.toNat y2.2.2) (off:=0) rfl cx (λ_=>rfl) rfl (dP D).2.2 rfl) ⟨rfl,trivial⟩ ?_;refine bK rfl rfl rfl (aV rfl) ⟨rfl,trivial⟩ ?_;refine bK rfl rfl rfl (aV rfl) ⟨rfl,trivial⟩ ?_;obtain⟨x5,y,h⟩:=aa h;refine gX 0 rfl rfl rfl rfl (cM (t:=Ti) rfl ie cx y) ⟨rfl,rfl,trivial⟩ ?_;refine gX 0 rfl rfl rfl rfl (g7 (i:=Int.toNat y2.2.1) (off:=0) rfl cx (λ_=>rfl) rfl (dP y).2.2 rfl) ⟨rfl,trivial⟩ ?_;obtain⟨x6,x,h⟩:=aa h;refine gX 0 rfl rfl rfl rfl (cM (t:=Ti) rfl ie cx x) ⟨rfl,rfl,trivial⟩ ?_;refine tl 13 [true,true,false,false,true,true,true,true,true,true,true,true,true] [27] [] [] rfl (by kernel_rfl) (by kernel_rfl) (by kernel_rfl) dQ (λvs hv hB=>?_);obtain⟨w0,Wa,rfl,Y⟩:=av hv;obtain⟨w1,V9,rfl,X⟩:=av Y;obtain⟨w2,V8,rfl,U⟩:=av X;obtain⟨w3,V7,rfl,Q⟩:=av U;obtain⟨w4,V6,rfl,O⟩:=av Q;obtain⟨w5,V5,rfl,M⟩:=av O;obtain⟨w6,V4,rfl,J⟩:=av M;obtain⟨w7,V3,rfl,F⟩:=av J;obtain⟨w8,V2,rfl,E⟩:=av F;obtain⟨w9,zz,rfl,s⟩:=av E;obtain⟨V0,qt,rfl,l⟩:=av s;obtain⟨VZ,pq,rfl,j⟩:=av l;obtain⟨zM,mw,rfl,e⟩:=av j;obtain rfl:=pu e;refine⟨[0],[.sl c 3 Ti y2.1],by kernel_rfl,by decide,?_⟩;refine te rfl rfl (gJ (i:=Int.toNat y2.2.1) rfl cx rfl (nB x) rfl .int rfl) ⟨rfl,rfl,trivial⟩ (by kernel_rfl) ?_;obtain⟨x7,u,h⟩:=aa h;refine vt rfl rfl rfl rfl (cM (t:=Ti) rfl ie cx u) ⟨rfl,rfl,trivial⟩ (by kernel_rfl) ?_;refine te rfl rfl (gJ (i:=Int.toNat y2.2.2) rfl cx rfl (nB u) rfl .int rfl) ⟨rfl,rfl,trivial⟩ (by kernel_rfl) ?_;refine yN ?_;refine bF (SE.fin (Γ':=[(0,.eq c),(2,I y2.2.1),(3,I y2.2.2)]) (Δ':=[.sl c 3 Ti (List.set (List.set y2.1 (Int.toNat y2.2.1) x4) (Int.toNat y2.2.2) x5)]) [0] ⟨rfl,rfl,rfl,trivial⟩ rfl) ?_;refine aO (tn (ab (mq ?_)));obtain⟨x8,gw,h⟩:=aa h;refine jb (bp rfl gw) ?_;refine mq ?_;obtain⟨x9,Z,h⟩:=aa h;refine jb (eM rfl Z) ?_;refine aq ?_;refine aq (nl ?_);exact jz ((),(List.set (List.set y2.1 (Int.toNat y2.2.1) x4) (Int.toNat y2.2.2) x5,x8,x9)) h [0]
 .
  refine d5 (bv (bv (cu (jp ?_))));cases h;exact aP () [] 1 trivial rfl
def kK(k:Nat)(a0:Int):Option Int:=
 (fU k a0).bind λr1=>
 some (r1.length:Int)
theorem nS(k:Nat)(a0:Int)(r:Int)(h:kK k a0=some r):
 dD Tryz.prog 88 [.eq (.int .u8 a0)] [] (λ_:Unit=>(bM [I r],[])):=by
 unfold kK at h
 replace h:=bh h
 refine dD.of 6 Tryz.func88 rfl Tryz.ntmps88 rfl λS w0=>?_
 refine sr ?_
 refine cq ?_
 refine nt ?_
 refine sr ?_
 refine mq ?_
 obtain⟨r1,c,h⟩:=aa h
 have e:=kw k a0 r1 c
 refine ja (ay [.tmp 3] rfl rfl P3 rfl e) ?_
 refine ol ie ?_
 refine aq ?_
 refine nt ?_
 refine ax ?_
 cases h
 exact ra
def ny(k:Nat)(a0:Int)(a1:Int):Option Int:=
 (kK k a0).bind λr1=>
 (kK k a1).bind λr2=>
 (ck (r1 - r2)).bind λx3=>
 some x3
theorem tK(k:Nat)(a0:Int)(a1:Int)(c:Nat)(r:Int)(h:ny k a0 a1=some r):
 dD Tryz.prog 116 [.eq (.int .u8 a0),.eq (.int .u8 a1),Pt c] [.obj c 140 (.eq (.func (.func 88) #[] #[]))] (λ_:Unit=>(bM [I r],[.obj c 140 (.eq (.func (.func 88) #[] #[]))])):=by
 unfold ny at h
 replace h:=bh h
 refine dD.of 13 Tryz.func116 rfl Tryz.ntmps116 rfl λS w0=>?_
 refine sr ?_
 refine cq ?_
 refine nt ?_
 refine aj ?_
 refine cV ?_
 refine ea 0 (aC rfl Oa nW rfl) ?_
 refine dm ?_
 obtain⟨r1,l,h⟩:=aa h
 have s:=nS k a0 r1 l
 refine db (t5 (fs:=[]) (cs:=[]) (ags:=[.eq (.int .u8 a0)]) [.tmp 7] rfl rfl R9 rfl s) ?_
 refine ea 0 (aC rfl Oa nW rfl) ?_
 refine dm ?_
 refine df dQ ?_
 obtain⟨r2,j,h⟩:=aa h
 have n:=nS k a1 r2 j
 refine jb (t5 (fs:=[]) (cs:=[]) (ags:=[.eq (.int .u8 a1)]) [.tmp 10] rfl rfl R9 rfl n) ?_
 obtain⟨x3,e,h⟩:=aa h
 refine jb (eM rfl e) ?_
 refine aq ?_
 refine nt ?_
 refine ax ?_
 cases h
 exact aP () [_] 1 ⟨rfl,trivial⟩ rfl
def fQ(k:Nat)(a0:(List Int)):Nat->(Int×Int)->Option Int
 |0,_=>none
 |n+1,y4=>
  if y4.2 < (a0.length:Int) then((((aR a0 y4.2).bind λx8=>
  (ny k x8 y4.1).bind λr9=>
  if r9 < 0 then((aR a0 y4.2).bind λe=>
  some e) else(some y4.1)):Option (Int)).bind λx6=>
  (ck (y4.2+1)).bind λc=>
  fQ k a0 n (x6,c)) else(some y4.1)
def ko(k:Nat)(a0:(List Int)):Option Int:=
 if(a0.length:Int) < 1 then(none) else((aR a0 0).bind λx1=>
 ((fQ k a0 k (x1,1)):Option (Int)).bind λx2=>
 some x2)
theorem qh(k:Nat)(a0:(List Int))(c_a1_0:Nat)(r:Int)(h:ko k a0=some r):
 dD Tryz.prog 115 [.rep (.slice (.int .u8)) a0,.eq (.func (.func 116) #[] #[(Pv c_a1_0)])] [.obj c_a1_0 140 (.eq (.func (.func 88) #[] #[]))] (λ_:Unit=>(bM [.eq (.int .u8 r)],[.obj c_a1_0 140 (.eq (.func (.func 88) #[] #[]))])):=by
 unfold ko at h
 replace h:=bh h
 refine dD.of 33 Tryz.func115 rfl Tryz.ntmps115 rfl λS w0=>?_
 refine sr ?_
 refine cq ?_
 refine nt ?_
 refine aj ?_
 refine sr ?_
 refine mq ?_
 refine ol xj ?_
 refine jb (bN rfl) ?_
 refine nt ?_
 refine ci h (λh=>?_) (λh=>?_)
 .
  cases h
 .
  refine sk (sr (mq ?_));obtain⟨x1,u,h⟩:=aa h;refine jb (aX (t:=(.int .u8)) rfl xj oh u) ?_;refine ja (au (t:=(.int .u8)) rfl oh rfl) ?_;refine aq (nt ?_);refine aM (Z:=Unit) (α:=Int) (λz3 x2=>[(5,.eq (.int .u8 x2))]) (λz3 x2=>[.obj c_a1_0 140 (.eq (.func (.func 88) #[] #[]))]) h (λK h=>?_) (λz3 x2 h=>?_)
  .refine sr (cq (nt (ai ?_)));refine aL (λz5 y4=>[(0,.rep (.slice (.int .u8)) a0),(1,.eq (.func (.func 116) #[] #[(Pv c_a1_0)])),(5,.eq (.int .u8 y4.1)),(6,I y4.2)]) (λz5 y4=>[.obj c_a1_0 140 (.eq (.func (.func 88) #[] #[]))]) (fQ k a0) k () (x1,1) (λ_=>rfl) h (SE.fin [0] ⟨rfl,rfl,rfl,rfl,trivial⟩ rfl) (λn z5 y4 h=>?_);unfold fQ at h;refine aj (sr ?_);iterate 2 refine mq ?_
   refine ol xj ?_;refine jb (bN rfl) ?_;refine nt (ci h (λh=>?_) (λh=>?_))
   .refine sk (aM (Z:=Unit) (α:=Int) (λz7 x6=>[(0,.rep (.slice (.int .u8)) a0),(1,.eq (.func (.func 116) #[] #[(Pv c_a1_0)])),(5,.eq (.int .u8 x6)),(6,I y4.2)]) (λz7 x6=>[.obj c_a1_0 140 (.eq (.func (.func 88) #[] #[]))]) h (λK h=>?_) (λz7 x6 h=>?_))
    .refine ai (sr ?_);iterate 3 refine mq ?_
     obtain⟨x8,s,h⟩:=aa h;refine jb (aX (t:=(.int .u8)) rfl xj oh s) ?_;refine ja (au (t:=(.int .u8)) rfl oh rfl) ?_;refine mq ?_;obtain⟨r9,x,h⟩:=aa h;refine kc (t5 (fs:=[]) (cs:=[(Pv c_a1_0)]) (ags:=[.eq (.int .u8 x8),.eq (.int .u8 y4.1)]) [.tmp 24,.tmp 25] rfl rfl SL rfl (tK k x8 y4.1 c_a1_0 r9 x)) ?_;refine jb (bN rfl) ?_;refine nt (ci h (λh=>?_) (λh=>?_))
     .refine ab ?_;iterate 2 refine mq ?_
      obtain⟨l,e,h⟩:=aa h;refine jb (aX (t:=(.int .u8)) rfl xj oh e) ?_;refine ja (au (t:=(.int .u8)) rfl oh rfl) ?_;refine aq (aF (bn ?_));exact jz ((),l) h [0]
     .refine bf (bn ?_);exact jz ((),y4.1) h [0]
    .refine ab (mq ?_);obtain⟨j,c,h⟩:=aa h;refine jb (bp rfl c) ?_;refine aq (nl ?_);exact jz ((),(x6,j)) h [0]
   .refine xa ?_;exact jz ((),y4.1) h [0]
  .refine sr (mq ?_);refine aq (nt (ax ?_));cases h;exact aP () [_] 1 ⟨rfl,trivial⟩ rfl
def qy(k:Nat)(a0:(List Int)):Option Int:=
 (ko k a0).bind λr2=>
 some r2
theorem vX(k:Nat)(a0:(List Int))(r:Int)(h:qy k a0=some r):
 dD Tryz.prog 87 [.rep (.slice (.int .u8)) a0,.eq (.func (.func 88) #[] #[])] [] (λ_:Unit=>(bM [.eq (.int .u8 r)],[])):=by
 unfold qy at h
 replace h:=bh h
 refine dD.of 8 Tryz.func87 rfl Tryz.ntmps87 rfl λS w0=>?_
 refine sr ?_
 refine bx λb1=>?_
 refine cq ?_
 refine nt ?_
 refine sr ?_
 refine mq ?_
 refine ja (oG [] [.tmp 3] [] [(Pv b1)] rfl rfl rfl) ?_
 obtain⟨r2,c,h⟩:=aa h
 have e:=qh k a0 b1 r2 c
 refine kb (ay [.tmp 5,.tmp 6] rfl rfl SN rfl e) ?_
 refine aq ?_
 refine nt ?_
 refine ax ?_
 cases h
 exact ra
def hH(k:Nat)(a0:(List (List Int)))(a1:(List (List Int))):Nat->Int->Option (Except Bool Unit)
 |0,_=>none
 |n+1,y3=>
  if y3 < (a0.length:Int) then((aR a0 y3).bind λx5=>
  (aR a1 y3).bind λx6=>
  (fi k x5 x6).bind λr7=>
  if¬(r7=true) then(some (.error false)) else((ck (y3+1)).bind λx8=>
  hH k a0 a1 n x8)) else(some (.ok ()))
def jL(k:Nat)(a0:(List (List Int)))(a1:(List (List Int))):Option Bool:=
 if¬((a0.length:Int)=(a1.length:Int)) then(some false) else(bE (α:=Unit) (hH k a0 a1 k 0) (some) λ_=>
 some true)
theorem na(k:Nat)(a0:(List (List Int)))(a1:(List (List Int)))(r:Bool)(h:jL k a0 a1=some r):
 dD Tryz.prog 51 [.rep (.slice Tl) a0,.rep (.slice Tl) a1] [] (λ_:Unit=>(bM [.eq (.bool r)],[])):=by
 unfold jL at h
 replace h:=bh h
 refine dD.of 27 Tryz.func51 rfl Tryz.ntmps51 rfl λS w0=>?_
 refine sr ?_
 refine cq ?_
 refine nt ?_
 refine aj ?_
 refine sr ?_
 refine mq ?_
 refine ol ta ?_
 refine mq ?_
 refine ol ta ?_
 refine jb (dZ rfl) ?_
 refine nt ?_
 refine cn h (λh=>?_) (λh=>?_)
 .
  refine sr (cq (nt (rx ?_)));cases h;exact ra
 .
  refine sk (dK (Z:=Unit) (α:=Unit) (λz2 x1=>[]) (λz2 x1=>[]) (λe=>e=r) h (λe h=>Option.some.inj h) (λK hR h=>?_) (λz2 x1 h=>?_))
  .refine sr (cq (nt (ai ?_)));refine aL (λz4 y3=>[(0,.rep (.slice Tl) a0),(1,.rep (.slice Tl) a1),(5,I y3)]) (λz4 y3=>[]) (hH k a0 a1) k () 0 (λ_=>rfl) h (SE.fin [] ⟨rfl,rfl,rfl,trivial⟩ rfl) (λn z4 y3 h=>?_);unfold hH at h;refine aj (sr ?_);iterate 2 refine mq ?_
   refine ol ta ?_;refine jb (bN rfl) ?_;refine nt (ci h (λh=>?_) (λh=>?_))
   .refine sk (aj (ai (aj (cV ?_))));refine dm ?_;refine dm ?_;obtain⟨x5,l,h⟩:=aa h;refine db (aX (t:=Tl) rfl ta gG l) ?_;refine da (au (t:=Tl) rfl gG rfl) ?_;refine dm ?_;refine dm ?_;obtain⟨x6,j,h⟩:=aa h;refine db (aX (t:=Tl) rfl ta gG j) ?_;refine da (au (t:=Tl) rfl gG rfl) ?_;refine df dQ ?_;obtain⟨r7,s,h⟩:=aa h;refine jb (ay [.tmp 20,.tmp 24] rfl rfl MH rfl (iD k x5 x6 r7 s)) ?_;refine ja (ic rfl) ?_;refine nt (cw h (λh=>?_) (λh=>?_))
    .refine sr (cq (nt (ax (br (ba (be ?_))))));obtain rfl:=hR _ h;exact ra
    .refine bf (aO (tn (ab (mq ?_))));obtain⟨x8,c,h⟩:=aa h;refine jb (bp rfl c) ?_;refine aq (nl ?_);exact jz ((),x8) h []
   .refine xa ?_;exact jz ((),()) h []
  .refine sr (cq (nt (ax ?_)));cases h;exact ra
def fB(k:Nat)(a1:Int):Nat->((List Int)×Int×Int×(List Int)×Int)->Option ((List Int)×(List Int)×Int×Int)
 |0,_=>none
 |n+1,y3=>
  if y3.2.2.2.2 < a1 then((((ew k (y3.1,y3.2.1,y3.2.2.1) 3).bind λr7=>
  if r7.1=true then((cP (bW (length y3.2.2.2.1+length [y3.2.2.2.2]))).bind λ_=>
  some (r7.2.1,r7.2.2.1,r7.2.2.2,y3.2.2.2.1++[y3.2.2.2.2])) else(some (r7.2.1,r7.2.2.1,r7.2.2.2,y3.2.2.2.1))):Option ((List Int)×Int×Int×(List Int))).bind λx5=>
  (ck (y3.2.2.2.2+1)).bind λc=>
  fB k a1 n (x5.1,x5.2.1,x5.2.2.1,x5.2.2.2,c)) else(some (y3.2.2.2.1,y3.1,y3.2.1,y3.2.2.1))
def jX(k:Nat)(a0:bO)(a1:Int):Option ((List Int)×bO):=
 ((fB k a1 k (a0.1,a0.2.1,a0.2.2,([]:(List Int)),0)):Option ((List Int)×(List Int)×Int×Int)).bind λx1=>
 some (x1.1,(x1.2.1,x1.2.2.1,x1.2.2.2))
theorem uT(k:Nat)(a0:bO)(c:Nat)(a1:Int)(r:(List Int)×bO)(h:jX k a0 a1=some r):
 dD Tryz.prog 24 [Pt c,I a1] [.obj c 71 (.agg (.pair (.rep Tl a0.1) (.pair (I a0.2.1) (.eq (.int .u64 a0.2.2)))))] (λ_:Unit=>(bM [.rep Tl r.1],[.obj c 71 (.agg (.pair (.rep Tl r.2.1) (.pair (I r.2.2.1) (.eq (.int .u64 r.2.2.2)))))])):=by
 unfold jX at h
 replace h:=bh h
 refine dD.of 19 Tryz.func24 rfl Tryz.ntmps24 rfl λS w0=>?_
 refine sr ?_
 refine cq ?_
 refine nt ?_
 refine sr ?_
 refine cq ?_
 refine nt ?_
 refine aM (Z:=Value) (α:=(List Int)×(List Int)×Int×Int) (λz2 x1=>[(5,.eq z2)]) (λz2 x1=>[.sl z2 3 Ti x1.1,.obj c 71 (.agg (.pair (.rep Tl x1.2.1) (.pair (I x1.2.2.1) (.eq (.int .u64 x1.2.2.2)))))]) h (λK h=>?_) (λz2 x1 h=>?_)
 .
  refine sr (cq (nt (ai ?_)));refine iO (SE.nil 3 Ti) ?_;refine aL (λz4 y3=>[(0,Pt c),(1,I a1),(5,.eq z4),(6,I y3.2.2.2.2)]) (λz4 y3=>[.obj c 71 (.agg (.pair (.rep Tl y3.1) (.pair (I y3.2.1) (.eq (.int .u64 y3.2.2.1))))),.sl z4 3 Ti y3.2.2.2.1]) (fB k a1) k (.slice none 0 0) (a0.1,a0.2.1,a0.2.2,([]:(List Int)),0) (λ_=>rfl) h (SE.fin [1,0] ⟨rfl,rfl,rfl,rfl,trivial⟩ rfl) (λn z4 y3 h=>?_);unfold fB at h;refine aj (sr ?_);iterate 2 refine mq ?_
  refine jb (bN rfl) ?_;refine nt (ci h (λh=>?_) (λh=>?_))
  .refine sk (aM (Z:=Value) (α:=(List Int)×Int×Int×(List Int)) (λz6 x5=>[(0,Pt c),(1,I a1),(5,.eq z6),(6,I y3.2.2.2.2)]) (λz6 x5=>[.obj c 71 (.agg (.pair (.rep Tl x5.1) (.pair (I x5.2.1) (.eq (.int .u64 x5.2.2.1))))),.sl z6 3 Ti x5.2.2.2]) h (λK h=>?_) (λz6 x5 h=>?_))
   .refine ai (sr (mq ?_));obtain⟨r7,s,h⟩:=aa h;refine kb (ay [.tmp 12,.const (.int .i64 (3))] rfl rfl MG rfl (hP k (y3.1,y3.2.1,y3.2.2.1) c 3 r7 s)) ?_;refine nt (cv h (λh=>?_) (λh=>?_))
    .refine ab ?_;iterate 2 refine mq ?_
     refine ja (bj (t:=Ti) [(.tmp 15,_)] [y3.2.2.2.2] rfl rfl dL (.cons rfl .int .nil) rfl rfl) ?_;obtain⟨u8,l,h⟩:=aa h;refine fr 1 ?_;refine eG rfl rfl rfl (cO rfl rfl dL (am l)) ⟨rfl,rfl,trivial⟩ λv9=>?_;refine aq (aF (bn ?_));exact jz (v9,(r7.2.1,r7.2.2.1,r7.2.2.2,y3.2.2.2.1++[y3.2.2.2.2])) h [1,0]
    .refine bf (bn ?_);exact jz (z4,(r7.2.1,r7.2.2.1,r7.2.2.2,y3.2.2.2.1)) h [0,1]
   .refine ab (mq ?_);obtain⟨j,e,h⟩:=aa h;refine jb (bp rfl e) ?_;refine aq (nl ?_);exact jz (z6,(x5.1,x5.2.1,x5.2.2.1,x5.2.2.2,j)) h [0,1]
  .refine xa ?_;exact jz (z4,(y3.2.2.2.1,y3.1,y3.2.1,y3.2.2.1)) h [1,0]
 .
  refine sr (mq ?_);refine aq (nt (ax ?_));refine bF (jo [4,5,18] ⟨rfl,rfl,rfl,trivial⟩) ?_;cases h;exact aP () [_] 1 ⟨rfl,trivial⟩ rfl
def fh(k:Nat)(a0:(List (List Int)))(a1:(List Int)):Nat->Int->Option (Except Bool Unit)
 |0,_=>none
 |n+1,y3=>
  if y3 < (a0.length:Int) then((aR a0 y3).bind λx5=>
  (fi k x5 a1).bind λr6=>
  if r6=true then(some (.error true)) else((ck (y3+1)).bind λx7=>
  fh k a0 a1 n x7)) else(some (.ok ()))
def m9(k:Nat)(a0:(List (List Int)))(a1:(List Int)):Option Bool:=
 bE (α:=Unit) (fh k a0 a1 k 0) (some) λ_=>
 some false
theorem yf(k:Nat)(a0:(List (List Int)))(a1:(List Int))(r:Bool)(h:m9 k a0 a1=some r):
 dD Tryz.prog 21 [.rep (.slice Tl) a0,.rep Tl a1] [] (λ_:Unit=>(bM [.eq (.bool r)],[])):=by
 unfold m9 at h
 replace h:=bh h
 refine dD.of 18 Tryz.func21 rfl Tryz.ntmps21 rfl λS w0=>?_
 refine sr ?_
 refine cq ?_
 refine nt ?_
 refine dK (Z:=Unit) (α:=Unit) (λz2 x1=>[]) (λz2 x1=>[]) (λe=>e=r) h (λe h=>Option.some.inj h) (λK hR h=>?_) (λz2 x1 h=>?_)
 .
  refine sr (cq (nt (ai ?_)));refine aL (λz4 y3=>[(0,.rep (.slice Tl) a0),(1,.rep Tl a1),(5,I y3)]) (λz4 y3=>[]) (fh k a0 a1) k () 0 (λ_=>rfl) h (SE.fin [] ⟨rfl,rfl,rfl,trivial⟩ rfl) (λn z4 y3 h=>?_);unfold fh at h;refine aj (sr ?_);iterate 2 refine mq ?_
  refine ol ta ?_;refine jb (bN rfl) ?_;refine nt (ci h (λh=>?_) (λh=>?_))
  .refine sk (aj (ai (sr ?_)));iterate 2 refine mq ?_
   obtain⟨x5,j,h⟩:=aa h;refine jb (aX (t:=Tl) rfl ta gG j) ?_;refine ja (au (t:=Tl) rfl gG rfl) ?_;refine mq ?_;obtain⟨r6,l,h⟩:=aa h;refine jb (ay [.tmp 15,.tmp 16] rfl rfl MH rfl (iD k x5 a1 r6 l)) ?_;refine nt (cv h (λh=>?_) (λh=>?_))
   .refine sr (cq (nt (ax (br (ba (be ?_))))));obtain rfl:=hR _ h;exact ra
   .refine bf (aO (tn (ab (mq ?_))));obtain⟨x7,c,h⟩:=aa h;refine jb (bp rfl c) ?_;refine aq (nl ?_);exact jz ((),x7) h []
  .refine xa ?_;exact jz ((),()) h []
 .
  refine sr (cq (nt (ax ?_)));cases h;exact ra
def cU{σ:Type}(k:Nat)(a0:(List Int))(a3:Int)(self:(List Int)->Int->σ->Option (Bool×σ)):Nat->(Int×σ)->Option (Except (Bool×σ) (σ))
 |0,_=>none
 |n+1,y6=>
  if y6.1 < a3 then((cP (bW (length a0+length [y6.1]))).bind λ_=>
  (ck (y6.1+1)).bind λh=>
  (self (a0++[y6.1]) h y6.2).bind λc=>
  if¬(c.1=true) then(some (.error (false,c.2))) else((ck (y6.1+1)).bind λe=>
  cU k a0 a3 self n (e,c.2))) else(some (.ok y6.2))
def cK{σ:Type}(k:Nat)(Y:σ->(List Int)->Option (σ×Bool))(a3:Int):Nat->(List Int)->Int->σ->Option (Bool×σ)
 |0,_,_,_=>none
 |m0+1,a0,a1,s0=>
  (dx k a0).bind λr1=>
  (Y s0 r1).bind λr2=>
  if¬(r2.2=true) then(some (false,r2.1)) else(bE (α:=σ) (cU k a0 a3 (cK k Y a3 m0) k (a1,r2.1)) (some) λx4=>
  some (true,x4))
theorem qx{M:Md Tryz.prog}{σ Z:Type}(E:Z->σ->List D)(l:Nat)(Y:σ->(List Int)->Option (σ×Bool))(k:Nat)(u:Nat)(a3:Int)(j:Nat)(c:Nat)(hY:∀z s p r,Y s p=some r->YT M l [.rep Tl p] (E z s) (λz':Z=>(.eq (.bool r.2),E z' r.1))):
 ∀(n:Nat) (a0:(List Int)) (x:Value) (a1:Int) (z0:Z) (s0:σ) (r:Bool×σ),cK k Y a3 n a0 a1 s0=some r->bR M 92 [.eq x,I a1,Pt u,Pt j,Pt c] ([.sl x 3 Ti a0,.obj u 43 (.eq (.func (.yield l) #[] #[])),.obj j 3 (I a3),.obj c 143 (.eq (.func (.func 92) #[] #[(Pv u),(Pv j),(Pv c)]))]++E z0 s0) (λz:Z=>(bM [.eq (.bool r.1)],[.sl x 3 Ti a0,.obj u 43 (.eq (.func (.yield l) #[] #[])),.obj j 3 (I a3),.obj c 143 (.eq (.func (.func 92) #[] #[(Pv u),(Pv j),(Pv c)]))]++E z r.2)):=by
 intro n
 induction n with
 |zero=>intro a0 x a1 z0 s0 r h;cases h
 |succ m0 ih=>
  intro a0 x a1 z0 s0 r h;rw [cK] at h;replace h:=bh h;refine bR.of 29 Tryz.func92 rfl Tryz.ntmps92 rfl λS w0=>?_;refine sr (cq (nt (aj (aj ?_))));refine cV ?_;refine ea 1 (aC rfl Ud nW rfl) ?_;refine dm ?_;obtain⟨r1,V2,h⟩:=aa h;refine vA 0 rfl rfl rfl rfl (JF (jE (N:=[(.tmp 10,.eq x)]) (ay [.tmp 10] rfl rfl SB rfl (mM k a0 r1 V2)) (λ_ _ _ hv hn=>⟨(lend hn.1 hv),trivial⟩) (λ_=>⟨rfl,IU (by simp [D.flat,A.flat,Ty.flat])⟩))) ⟨rfl,trivial⟩ ?_;refine df dQ ?_;obtain⟨r2,V0,h⟩:=aa h;refine fr 3 ?_;refine fr 3 ?_;refine fr 3 ?_;refine fr 3 ?_;refine vu [.sl x 3 Ti a0,.obj u 43 (.eq (.func (.yield l) #[] #[])),.obj j 3 (I a3),.obj c 143 (.eq (.func (.func 92) #[] #[(Pv u),(Pv j),(Pv c)]))] rfl rfl rfl (Dy [.tmp 11] rfl rfl rfl (hY z0 s0 r1 r2 V0)) ⟨rfl,rfl,trivial⟩ λz3=>?_;refine ja (ic rfl) ?_;refine nt (cw h (λh=>?_) (λh=>?_))
  .refine sr (cq (nt (rx ?_)));cases h;exact mm z3 [_] ⟨rfl,trivial⟩ rfl
  .refine sk (dK (Z:=Z) (α:=σ) (λz5 x4=>[]) (λz5 x4=>[.sl x 3 Ti a0,.obj u 43 (.eq (.func (.yield l) #[] #[])),.obj j 3 (I a3),.obj c 143 (.eq (.func (.func 92) #[] #[(Pv u),(Pv j),(Pv c)]))]++E z5 x4) (λe=>e=r) h (λe h=>Option.some.inj h) (λK hR h=>?_) (λz5 x4 h=>?_))
   .refine sr (mq ?_);refine aq (nt (ai ?_));refine aL (Z:=Z) (α:=Int×σ) (λz7 y6=>[(0,.eq x),(3,Pt j),(4,Pt c),(8,I y6.1)]) (λz7 y6=>[.sl x 3 Ti a0,.obj j 3 (I a3),.obj c 143 (.eq (.func (.func 92) #[] #[(Pv u),(Pv j),(Pv c)])),.obj u 43 (.eq (.func (.yield l) #[] #[]))]++E z7 y6.2) (cU k a0 a3 (cK k Y a3 m0)) k z3 (a1,r2.1) (λ_=>rfl) h (f5 [.sl x 3 Ti a0,.obj u 43 (.eq (.func (.yield l) #[] #[])),.obj j 3 (I a3),.obj c 143 (.eq (.func (.func 92) #[] #[(Pv u),(Pv j),(Pv c)]))] (E z3 r2.1) [0,2,3,1] ⟨rfl,rfl,rfl,rfl,trivial⟩ rfl) (λn z7 y6 h=>?_);unfold cU at h;refine aj (sr (mq ?_));refine fr 1 ?_;refine lo cx ?_;refine jb (bN rfl) ?_;refine nt (ci h (λh=>?_) (λh=>?_))
    .refine sk (aj (ai (aj (o5 ?_))));refine gX 2 rfl rfl rfl rfl (aC rfl G9 nW rfl) ⟨rfl,trivial⟩ ?_;refine bK rfl rfl rfl (aV rfl) ⟨rfl,trivial⟩ ?_;refine bK rfl rfl rfl (aV rfl) ⟨rfl,trivial⟩ ?_;refine bK rfl rfl rfl (bj (t:=Ti) [(.tmp 22,_)] [y6.1] rfl rfl dL (.cons rfl .int .nil) rfl rfl) ⟨rfl,trivial⟩ ?_;obtain⟨u8,VZ,h⟩:=aa h;refine A7 1 rfl (λv=>[.sl v 3 Ti (a0++[y6.1]),.sl (Dq x v (length a0)) 3 Ti (Ds x v a0)]) (λ_=>rfl) rfl rfl rfl (xQ rfl rfl dL (am VZ) rfl) ⟨rfl,rfl,trivial⟩ ?_;refine bK rfl rfl rfl (aV rfl) ⟨rfl,trivial⟩ ?_;obtain⟨J,Q,h⟩:=aa h;refine bK rfl rfl rfl (bp rfl Q) ⟨rfl,rfl,trivial⟩ ?_;refine NK (pre:=[.obj j 3 (I a3),.sl x 3 Ti a0,.obj c 143 (.eq (.func (.func 92) #[] #[(Pv u),(Pv j),(Pv c)])),.obj u 43 (.eq (.func (.yield l) #[] #[]))]) (E:=E z7 y6.2) 7 [true,true,true,true,true,true,true] [27,28] [] [] rfl (by kernel_rfl) (by kernel_rfl) (by kernel_rfl) dQ (by kernel_rfl) (λvs hv hB=>?_);obtain⟨w0,V9,rfl,zM⟩:=av hv;obtain⟨w1,V8,rfl,zz⟩:=av zM;obtain⟨w2,V7,rfl,qt⟩:=av zz;obtain⟨w3,V6,rfl,pq⟩:=av qt;obtain⟨v9,V5,rfl,mw⟩:=av pq;obtain⟨w5,V4,rfl,mc⟩:=av mw;obtain⟨w6,V3,rfl,gw⟩:=av mc;obtain rfl:=pu gw;refine⟨[0,1,2,3,4],[.obj j 3 (I a3),.obj c 143 (.eq (.func (.func 92) #[] #[(Pv u),(Pv j),(Pv c)])),.obj u 43 (.eq (.func (.yield l) #[] #[])),.sl v9 3 Ti (a0++[y6.1]),.sl (Dq x v9 (length a0)) 3 Ti (Ds x v9 a0)],by kernel_rfl,by decide,?_⟩;refine NA (Δ':=[.obj j 3 (I a3),.obj c 143 (.eq (.func (.func 92) #[] #[(Pv u),(Pv j),(Pv c)])),.obj u 43 (.eq (.func (.yield l) #[] #[])),.sl v9 3 Ti (a0++[y6.1]),.sl (Dq x v9 (length a0)) 3 Ti (Ds x v9 a0)]++E z7 y6.2) (by kernel_rfl) rfl ?_;obtain⟨F,U,h⟩:=aa h;refine fr 1 ?_;refine fr 1 ?_;refine fr 2 ?_;refine fr 3 ?_;refine fr 4 ?_;refine vu [.sl (Dq x v9 (length a0)) 3 Ti (Ds x v9 a0)] rfl rfl rfl (mR (fs:=[]) (cs:=[(Pv u),(Pv j),(Pv c)]) (ags:=[.eq v9,I J]) [.tmp 24,.tmp 26] rfl rfl R7 rfl (ih (a0++[y6.1]) v9 J z7 y6.2 F U)) ⟨rfl,rfl,rfl,trivial⟩ λy=>?_;refine fr 1 ?_;refine eF C9 ?_;refine ja (ic rfl) ?_;refine nt (cw h (λh=>?_) (λh=>?_))
     .refine sr (cq (nt (ax (br (ba (be ?_))))));obtain rfl:=hR _ h;exact mm y [_] ⟨rfl,trivial⟩ rfl
     .refine bf (aO (tn (ab (mq ?_))));obtain⟨X,O,h⟩:=aa h;refine jb (bp rfl O) ?_;refine aq (nl ?_);exact tg (y,(X,F.2)) h (f5 [.sl x 3 Ti a0,.obj u 43 (.eq (.func (.yield l) #[] #[])),.obj j 3 (I a3),.obj c 143 (.eq (.func (.func 92) #[] #[(Pv u),(Pv j),(Pv c)]))] (E y F.2) [0,2,3,1] ⟨rfl,rfl,rfl,rfl,trivial⟩ rfl)
    .refine xa ?_;exact tg (z7,y6.2) h (f5 [.obj j 3 (I a3),.sl x 3 Ti a0,.obj c 143 (.eq (.func (.func 92) #[] #[(Pv u),(Pv j),(Pv c)])),.obj u 43 (.eq (.func (.yield l) #[] #[]))] (E z7 y6.2) [1,3,0,2] trivial rfl)
   .refine sr (cq (nt (ax ?_)));cases h;exact mm z5 [_] ⟨rfl,trivial⟩ rfl
def gk{σ:Type}(k:Nat)(Y:σ->(List Int)->Option (σ×Bool))(a1:Int)(s0:σ):Option (σ):=
 (cK k Y a1 k ([]:(List Int)) 0 s0).bind λr3=>
 some r3.2
theorem sH{M:Md Tryz.prog}{σ Z:Type}(E:Z->σ->List D)(l:Nat)(Y:σ->(List Int)->Option (σ×Bool))(k:Nat)(a1:Int)(c:Nat)(hY:∀z s p r,Y s p=some r->YT M l [.rep Tl p] (E z s) (λz':Z=>(.eq (.bool r.2),E z' r.1))):
 ∀(z0:Z) (s0:σ) (r:σ),gk k Y a1 s0=some r->bR M 91 [.eq (.func (.yield l) #[] #[]),Pt c] ([.obj c 3 (I a1)]++E z0 s0) (λz:Z=>(bM [],[.obj c 3 (I a1)]++E z r)):=by
 intro z0 s0 r h
 unfold gk at h
 replace h:=bh h
 refine bR.of 7 Tryz.func91 rfl Tryz.ntmps91 rfl λS w0=>?_
 refine sr ?_
 refine bx λb1=>?_
 refine nt ?_
 refine sr ?_
 refine aW rfl rfl rfl (bb rfl QT S5) trivial λb2=>?_
 refine nt ?_
 refine sr ?_
 refine jc (oG [] [.tmp 2,.tmp 1,.tmp 3] [] [(Pv b1),(Pv c),(Pv b2)] rfl rfl rfl) ?_
 refine aJ rfl rfl (aE rfl G9 rfl rfl rfl) ⟨rfl,rfl,trivial⟩ ?_
 refine nt ?_
 refine ab ?_
 refine lo G9 ?_
 refine eF (SE.nil 3 Ti) ?_
 obtain⟨r3,e,h⟩:=aa h
 have j:=qx E l Y k b1 a1 c b2 hY k ([]:(List Int)) (.slice none 0 0) 0 z0 s0 r3 e
 refine fr 1 ?_
 refine fr 3 ?_
 refine fr 3 ?_
 refine fr 3 ?_
 refine vv rfl rfl rfl (mR (fs:=[]) (cs:=[(Pv b1),(Pv c),(Pv b2)]) (ags:=[.eq (.slice none 0 0),I 0]) [.const (.slice none 0 0),.const (.int .i64 (0))] rfl rfl R7 rfl j) ⟨rfl,rfl,rfl,trivial⟩ λz4=>?_
 refine aF ?_
 refine jp ?_
 refine bF (f5 (Γ':=[]) [.sl (.slice none 0 0) 3 Ti ([]:(List Int)),.obj b1 43 (.eq (.func (.yield l) #[] #[])),.obj c 3 (I a1),.obj b2 143 (.eq (.func (.func 92) #[] #[(Pv b1),(Pv c),(Pv b2)]))] (E z4 r3.2) [2] trivial rfl) ?_
 cases h
 exact mm z4 [] trivial rfl
theorem uL(a0:Int):dD Tryz.prog 61 [I a0] [] (λz:Nat=>(bM [.eq (.func (.func 91) #[] #[(Pv z)])],[.obj z 3 (I a0)])):=by
 refine dD.of 4 Tryz.func61 rfl Tryz.ntmps61 rfl λS w0=>?_;refine sr (bx λz=>?_);refine cq (nt (sr ?_));refine ja (oG [] [.tmp 1] [] [(Pv z)] rfl rfl rfl) ?_;refine aq (nt (ax ?_));exact aP z [_] 1 ⟨rfl,trivial⟩ rfl
