import Derived.Test.YtddkbkkogpolaaaGreatVDFacts
import Derived.Test.YtddkbkkogpolaaaGreatVDB6
open Nat
open List hiding mem_of_getElem?
open Array hiding mem_of_getElem? mk
set_option linter.unusedSimpArgs false
set_option linter.unusedVariables false
set_option maxRecDepth 4000
set_option maxHeartbeats 1000000
namespace Go.Proofs.YtddkbkkogpolaaaGreat
open K Go Go.Proofs
def ic(k:Nat)(a0:bM):Option (Int×bM):=
 ((if a0.2.1 < (a0.1.length:Int) then((aJ a0.1 a0.2.1).bind λx3=>
 some (IntKind.u64.wrap ((IntKind.u64.wrap ((IntKind.u64.wrap (a0.2.2 * 6364136223846793005))+1442695040888963407))+(IntKind.u64.wrap ((IntKind.u64.wrap x3) * 2862933555777941757))))) else(some (IntKind.u64.wrap ((IntKind.u64.wrap (a0.2.2 * 6364136223846793005))+1442695040888963407)))):Option (Int)).bind λx1=>
 (ck (a0.2.1+1)).bind λx4=>
 some (ii .u64 (sF .u64 (IntKind.u64.wrap ((sF .u64 x1 (ii .u64 x1 29)) * 2685821657736338717)) (ii .u64 (IntKind.u64.wrap ((sF .u64 x1 (ii .u64 x1 29)) * 2685821657736338717)) 32)) 8,(a0.1,x4,x1))
theorem sB(k:Nat)(a0:bM)(c:Nat)(r:Int×bM)(h:ic k a0=some r):
 dG Tryz.prog 60 [Pt c] [.obj c 71 (.agg (.pair (.rep Tl a0.1) (.pair (I a0.2.1) (.eq (.int .u64 a0.2.2)))))] (λ_:Unit=>(bL [.eq (.int .u64 r.1)],[.obj c 71 (.agg (.pair (.rep Tl r.2.1) (.pair (I r.2.2.1) (.eq (.int .u64 r.2.2.2)))))])):=by
 unfold ic at h
 replace h:=bo h
 refine dG.of 67 Tryz.func60 rfl Tryz.ntmps60 rfl λS w0=>?_
 refine sr ?_
 refine cq ?_
 refine nt ?_
 refine sr ?_
 iterate 2 refine mq ?_
 refine ja (cO rfl) ?_
 refine fl sJ ?_
 refine lo Eh ?_
 refine jb (Bc rfl) ?_
 refine jb (Hg rfl) ?_
 refine ja (cO rfl) ?_
 refine fl sJ ?_
 refine aM rfl rfl (aL rfl Eh rfl rfl rfl) ⟨rfl,rfl,trivial⟩ ?_
 refine nt ?_
 refine aD (Z:=Unit) (α:=Int) (λz2 x1=>[(0,Pt c)]) (λz2 x1=>[.obj c 71 (.agg (.pair (.rep Tl a0.1) (.pair (I a0.2.1) (.eq (.int .u64 x1)))))]) h (λK h=>?_) (λz2 x1 h=>?_)
 .
  refine ak (c9 ?_);refine dm ?_;refine da (cO rfl) ?_;refine da (aH rfl xZ) ?_;refine ea 0 (av rfl cM pr rfl) ?_;refine dm ?_;refine da (cO rfl) ?_;refine da (aH rfl H9) ?_;refine ea 0 (av rfl iQ pr rfl) ?_;refine da (pC rfl rfl iK) ?_;refine df eO ?_;refine jb (bK rfl) ?_;refine nt (ci h (λh=>?_) (λh=>?_))
  .refine c9 ?_;refine dm ?_;refine dm ?_;refine da (cO rfl) ?_;refine da (aH rfl sJ) ?_;refine ea 0 (av rfl Eh pr rfl) ?_;refine dm ?_;refine da (cO rfl) ?_;refine da (aH rfl H9) ?_;refine ea 0 (av rfl iQ pr rfl) ?_;refine dm ?_;refine da (cO rfl) ?_;refine da (aH rfl xZ) ?_;refine ea 0 (av rfl cM pr rfl) ?_;obtain⟨x3,j,h⟩:=aa h;refine db (bj (t:=Ti) rfl iK cM j) ?_;refine da (au (t:=Ti) rfl cM rfl) ?_;refine da (rX rfl U3 R2) ?_;refine db (Bc rfl) ?_;refine db (Hg rfl) ?_;refine df eO ?_;refine ja (cO rfl) ?_;refine fl sJ ?_;refine aM rfl rfl (aL rfl Eh rfl rfl rfl) ⟨rfl,rfl,trivial⟩ ?_;refine nl ?_;exact jz ((),IntKind.u64.wrap ((IntKind.u64.wrap ((IntKind.u64.wrap (a0.2.2 * 6364136223846793005))+1442695040888963407))+(IntKind.u64.wrap ((IntKind.u64.wrap x3) * 2862933555777941757)))) h [0]
  .refine aY (an ?_);exact jz ((),IntKind.u64.wrap ((IntKind.u64.wrap (a0.2.2 * 6364136223846793005))+1442695040888963407)) h [0]
 .
  refine sr (mq ?_);refine ja (cO rfl) ?_;refine fl xZ ?_;refine lo cM ?_;obtain⟨x4,e,h⟩:=aa h;refine jb (bh rfl e) ?_;refine ja (cO rfl) ?_;refine fl xZ ?_;refine aM rfl rfl (aL rfl cM rfl rfl rfl) ⟨rfl,rfl,trivial⟩ ?_;refine nt (ak (c9 ?_));refine dm ?_;refine da (cO rfl) ?_;refine da (aH rfl sJ) ?_;refine ea 0 (av rfl Eh pr rfl) ?_;refine dm ?_;refine da (cO rfl) ?_;refine da (aH rfl sJ) ?_;refine ea 0 (av rfl Eh pr rfl) ?_;refine f8 rfl rfl rfl (uh rfl (by decide)) ⟨rfl,rfl,trivial⟩ ?_;refine df eO ?_;refine jb (M9 rfl) ?_;refine aq (nt (sr ?_));refine mq ?_;refine jb (Bc rfl) ?_;refine aq (nt (sr ?_));iterate 2 refine mq ?_
  refine cf rfl (uh rfl (by decide)) ⟨rfl,rfl,trivial⟩ ?_;refine jb (M9 rfl) ?_;refine cf rfl (uh rfl (by decide)) ⟨rfl,rfl,trivial⟩ ?_;refine aq (nt (ay ?_));cases h;exact aR () [_] 1 ⟨rfl,trivial⟩ rfl
def cy(k:Nat)(a0:bM)(a1:Int):Option (Int×bM):=
 if a1 < 1 then(some (0,(a0.1,a0.2.1,a0.2.2))) else((ic k (a0.1,a0.2.1,a0.2.2)).bind λr1=>
 (ck (a1+1)).bind λx2=>
 (cN ((IntKind.u64.wrap x2)≠0)).bind λ_=>
 (ck (Int.tmod r1.1 (IntKind.u64.wrap x2))).bind λx4=>
 some (x4,(r1.2.1,r1.2.2.1,r1.2.2.2)))
theorem cK(k:Nat)(a0:bM)(c:Nat)(a1:Int)(r:Int×bM)(h:cy k a0 a1=some r):
 dG Tryz.prog 26 [Pt c,I a1] [.obj c 71 (.agg (.pair (.rep Tl a0.1) (.pair (I a0.2.1) (.eq (.int .u64 a0.2.2)))))] (λ_:Unit=>(bL [I r.1],[.obj c 71 (.agg (.pair (.rep Tl r.2.1) (.pair (I r.2.2.1) (.eq (.int .u64 r.2.2.2)))))])):=by
 unfold cy at h
 replace h:=bo h
 refine dG.of 14 Tryz.func26 rfl Tryz.ntmps26 rfl λS w0=>?_
 refine sr ?_
 refine cq ?_
 refine nt ?_
 refine ak ?_
 refine sr ?_
 refine mq ?_
 refine jb (bK rfl) ?_
 refine nt ?_
 refine ci h (λh=>?_) (λh=>?_)
 .
  refine sr (cq (nt (rx ?_)));cases h;exact aR () [_] 1 ⟨rfl,trivial⟩ rfl
 .
  refine sk (sr (mq ?_));obtain⟨r1,n,h⟩:=aa h;refine ka (aA [.tmp 7] rfl rfl TD rfl (sB k (a0.1,a0.2.1,a0.2.2) c r1 n)) ?_;refine mq ?_;obtain⟨x2,j,h⟩:=aa h;refine jb (bh rfl j) ?_;refine ja (rX rfl U3 R2) ?_;obtain⟨u3,l,h⟩:=aa h;refine jb (Qo rfl (am l)) ?_;obtain⟨x4,e,h⟩:=aa h;refine ja (zl rfl R2 U3 e) ?_;refine aq (nt (ay ?_));cases h;exact aR () [_] 1 ⟨rfl,trivial⟩ rfl
def fo(k:Nat)(a0:bM)(a1:Int):Option (Bool×bM):=
 (ck (a1 - 1)).bind λx1=>
 (cy k (a0.1,a0.2.1,a0.2.2) x1).bind λr2=>
 some (decide (r2.1=0),(r2.2.1,r2.2.2.1,r2.2.2.2))
theorem jp(k:Nat)(a0:bM)(c:Nat)(a1:Int)(r:Bool×bM)(h:fo k a0 a1=some r):
 dG Tryz.prog 52 [Pt c,I a1] [.obj c 71 (.agg (.pair (.rep Tl a0.1) (.pair (I a0.2.1) (.eq (.int .u64 a0.2.2)))))] (λ_:Unit=>(bL [.eq (.bool r.1)],[.obj c 71 (.agg (.pair (.rep Tl r.2.1) (.pair (I r.2.2.1) (.eq (.int .u64 r.2.2.2)))))])):=by
 unfold fo at h
 replace h:=bo h
 refine dG.of 10 Tryz.func52 rfl Tryz.ntmps52 rfl λS w0=>?_
 refine sr ?_
 refine cq ?_
 refine nt ?_
 refine sr ?_
 iterate 2 refine mq ?_
 obtain⟨x1,e,h⟩:=aa h
 refine jb (eN rfl e) ?_
 obtain⟨r2,j,h⟩:=aa h
 have l:=cK k (a0.1,a0.2.1,a0.2.2) c x1 r2 j
 refine kb (aA [.tmp 5,.tmp 7] rfl rfl vI rfl l) ?_
 refine jb (fH rfl) ?_
 refine aq ?_
 refine nt ?_
 refine ay ?_
 cases h
 exact aR () [_] 1 ⟨rfl,trivial⟩ rfl
def ie(k:Nat)(a0:bM)(a1:yf):Option (bI×bM):=
 (ck (a1.1 - 1)).bind λx3=>
 (cy k (a0.1,a0.2.1,a0.2.2) x3).bind λr4=>
 (cy k (r4.2.1,r4.2.2.1,r4.2.2.2) (a1.2.2.2.2.1.length:Int)).bind λr5=>
 (fo k (r5.2.1,r5.2.2.1,r5.2.2.2) 2).bind λr6=>
 some ((r4.1,r5.1,r6.1),(r6.2.1,r6.2.2.1,r6.2.2.2))
theorem sD(k:Nat)(a0:bM)(c:Nat)(a1:yf)(r:bI×bM)(h:ie k a0 a1=some r):
 dG Tryz.prog 18 [Pt c,.rep CB a1] [.obj c 71 (.agg (.pair (.rep Tl a0.1) (.pair (I a0.2.1) (.eq (.int .u64 a0.2.2)))))] (λ_:Unit=>(bL [.rep bf r.1],[.obj c 71 (.agg (.pair (.rep Tl r.2.1) (.pair (I r.2.2.1) (.eq (.int .u64 r.2.2.2)))))])):=by
 unfold ie at h
 replace h:=bo h
 refine dG.of 18 Tryz.func18 rfl Tryz.ntmps18 rfl λS w0=>?_
 refine sr ?_
 refine bx λb1=>?_
 refine aX rfl rfl rfl (bg rfl Ea LP) trivial λb2=>?_
 refine nt ?_
 refine ak ?_
 refine Fq [1,2,3,5,6,7,8,10,0,4,9,11,12,13] (by kernel_rfl) ?_
 refine bT rfl rfl rfl (aH rfl gp) ⟨rfl,trivial⟩ ?_
 refine hH 1 rfl rfl rfl rfl (av rfl cM pr rfl) ⟨rfl,trivial⟩ ?_
 obtain⟨x3,E,h⟩:=aa h
 refine bT rfl rfl rfl (eN rfl E) ⟨rfl,rfl,trivial⟩ ?_
 refine bT rfl rfl rfl (bJ rfl) ⟨rfl,trivial⟩ ?_
 refine bT rfl rfl rfl (aH rfl eh) ⟨rfl,trivial⟩ ?_
 refine hH 1 rfl rfl rfl rfl (av rfl kD pr rfl) ⟨rfl,trivial⟩ ?_
 refine bT rfl rfl rfl (pC rfl rfl vl) ⟨rfl,trivial⟩ ?_
 refine bT rfl rfl rfl (bJ rfl) ⟨rfl,trivial⟩ ?_
 refine bT rfl rfl rfl (bJ rfl) ⟨rfl,trivial⟩ ?_
 refine ve 9 [true,true,true,false,false,false,false,false,true] [9,14] [1] [.obj b1 26 (.rep CB a1)] rfl (by kernel_rfl) (by kernel_rfl) (by kernel_rfl) eO (λvs hv hB=>?_)
 obtain⟨w0,UN,rfl,D⟩:=ax hv
 obtain⟨w1,zz,rfl,y⟩:=ax D
 obtain⟨w2,qt,rfl,x⟩:=ax y
 obtain⟨w3,mw,rfl,u⟩:=ax x
 obtain⟨w4,mc,rfl,s⟩:=ax u
 obtain⟨w5,gw,rfl,n⟩:=ax s
 obtain⟨w6,Z,rfl,l⟩:=ax n
 obtain⟨w7,Y,rfl,j⟩:=ax l
 obtain⟨w8,X,rfl,e⟩:=ax j
 obtain rfl:=qY e
 refine⟨[1,0,2],[.obj b2 47 (.agg (.pair (I 0) (.pair (I 0) (.eq (.bool false))))),.obj c 71 (.agg (.pair (.rep Tl a0.1) (.pair (I a0.2.1) (.eq (.int .u64 a0.2.2)))))],by kernel_rfl,by decide,?_⟩
 obtain⟨r4,M,h⟩:=aa h
 have U:=cK k (a0.1,a0.2.1,a0.2.2) c x3 r4 M
 refine rF 1 rfl ?_
 refine va rfl rfl rfl rfl (aA [.tmp 5,.tmp 8] rfl rfl vI rfl U) ⟨rfl,rfl,trivial⟩ (by kernel_rfl) ?_
 obtain⟨r5,J,h⟩:=aa h
 have Q:=cK k (r4.2.1,r4.2.2.1,r4.2.2.2) c (a1.2.2.2.2.1.length:Int) r5 J
 refine va rfl rfl rfl rfl (aA [.tmp 10,.tmp 13] rfl rfl vI rfl Q) ⟨rfl,rfl,trivial⟩ (by kernel_rfl) ?_
 refine PC (by kernel_rfl) ?_
 obtain⟨r6,F,h⟩:=aa h
 have O:=jp k (r5.2.1,r5.2.2.1,r5.2.2.2) c 2 r6 F
 refine fr 1 ?_
 refine kb (aA [.tmp 15,.const (.int .i64 (2))] rfl rfl OW rfl O) ?_
 refine jc (dq [(0,.tmp 9,_),(1,.tmp 14,_),(2,.tmp 16,_)] rfl Qg Ea Nw (hP ⟨rfl,rfl,rfl,trivial⟩) rfl) ?_
 refine fr 2 ?_
 refine aM rfl rfl (aL rfl tV trivial rfl rfl) ⟨rfl,rfl,trivial⟩ ?_
 refine nt ?_
 refine ay ?_
 refine bY (iu (a:=.agg (.pair (I r4.1) (.pair (I r5.1) (.eq (.bool r6.1))))) (a':=.rep bf (r4.1,r5.1,r6.1)) (jx (.agg (.pair .int (.pair .int .bool))))) ?_
 refine bY (SE.fin (Γ':=[(4,_)]) [1,0,2] ⟨rfl,trivial⟩ rfl) ?_
 cases h
 exact aR () [.rep bf (r4.1,r5.1,r6.1)] 1 ⟨⟨_,_,_,_,_,rfl,(.tail _ (.head _)),tV,(qR),rfl⟩,trivial⟩ rfl
def i8(k:Nat)(a0:(List Int)):Option (List Int):=
 (cN (bP (length ([]:(List Int))+length a0))).bind λ_=>
 some (([]:(List Int))++a0)
theorem tq(k:Nat)(a0:(List Int))(r:(List Int))(h:i8 k a0=some r):
 dG Tryz.prog 89 [.rep Tl a0] [] (λz:Value=>(bL [.eq z],[.sl z 3 Ti r])):=by
 unfold i8 at h
 replace h:=bo h
 refine dG.of 6 Tryz.func89 rfl Tryz.ntmps89 rfl λS w0=>?_
 refine sr ?_
 refine cq ?_
 refine nt ?_
 refine sr ?_
 refine aX rfl rfl rfl (mV (t:=Ti) [] ([]:(List Int)) rfl rfl dT .nil rfl rfl) trivial λv1=>?_
 refine mq ?_
 obtain⟨u2,c,h⟩:=aa h
 refine er rfl rfl rfl (cI rfl rfl dT (am c)) ⟨rfl,rfl,trivial⟩ λv3=>?_
 refine aq ?_
 refine nt ?_
 refine ay ?_
 cases h
 exact aR v3 [.eq v3] 1 ⟨rfl,trivial⟩ rfl
def dL(k:Nat)(a0:(List (List Int))):Nat->((List (List Int))×Int)->Option (List (List Int))
 |0,_=>none
 |n+1,y3=>
  if y3.2 < (a0.length:Int) then((aJ a0 y3.2).bind λx5=>
  (i8 k x5).bind λr6=>
  (cN (bP (length y3.1+length [r6]))).bind λ_=>
  (ck (y3.2+1)).bind λc=>
  dL k a0 n (y3.1++[r6],c)) else(some y3.1)
def ig(k:Nat)(a0:(List (List Int))):Option (List (List Int)):=
 ((dL k a0 k (([]:(List (List Int))),0)):Option ((List (List Int)))).bind λx1=>
 some x1
theorem sE(k:Nat)(a0:(List (List Int)))(r:(List (List Int)))(h:ig k a0=some r):
 dG Tryz.prog 53 [.rep (.slice Tl) a0] [] (λz:Value=>(bL [.eq z],[.sl z 22 Tl r])):=by
 unfold ig at h
 replace h:=bo h
 refine dG.of 20 Tryz.func53 rfl Tryz.ntmps53 rfl λS w0=>?_
 refine sr ?_
 refine cq ?_
 refine nt ?_
 refine sr ?_
 refine cq ?_
 refine nt ?_
 refine aD (Z:=Value) (α:=(List (List Int))) (λz2 x1=>[(3,.eq z2)]) (λz2 x1=>[.sl z2 22 Tl x1]) h (λK h=>?_) (λz2 x1 h=>?_)
 .
  refine sr (cq (nt (aj ?_)));refine iL (SE.nil 22 Tl) ?_;refine aF (λz4 y3=>[(0,.rep (.slice Tl) a0),(3,.eq z4),(4,I y3.2)]) (λz4 y3=>[.sl z4 22 Tl y3.1]) (dL k a0) k (.slice none 0 0) (([]:(List (List Int))),0) (λ_=>rfl) h (SE.fin [0] ⟨rfl,rfl,rfl,trivial⟩ rfl) (λn z4 y3 h=>?_);unfold dL at h;refine ak (sr ?_);iterate 2 refine mq ?_
  refine ol qx ?_;refine jb (bK rfl) ?_;refine nt (ci h (λh=>?_) (λh=>?_))
  .refine sk (ak (aj (ab ?_)));iterate 3 refine mq ?_
   obtain⟨x5,j,h⟩:=aa h;refine jb (bj (t:=Tl) rfl qx iQ j) ?_;refine ja (au (t:=Tl) rfl iQ rfl) ?_;obtain⟨r6,s,h⟩:=aa h;refine aX rfl rfl rfl (aA [.tmp 15] rfl rfl Tm rfl (tq k x5 r6 s)) ⟨rfl,trivial⟩ λv7=>?_;refine eB (jt [16] ⟨rfl,trivial⟩) ?_;refine ja (bb (t:=Tl) [(.tmp 16,_)] [r6] rfl rfl nE (.cons rfl .rep .nil) rfl rfl) ?_;obtain⟨u8,l,h⟩:=aa h;refine er rfl rfl rfl (cI rfl rfl nE (am l)) ⟨rfl,rfl,trivial⟩ λv9=>?_;refine aq (aC (aN (tn (ab ?_))));refine mq ?_;obtain⟨e,c,h⟩:=aa h;refine jb (bh rfl c) ?_;refine aq (nl ?_);exact jz (v9,(y3.1++[r6],e)) h [0]
  .refine xa ?_;exact jz (z4,y3.1) h [0]
 .
  refine sr (mq ?_);refine aq (nt (ay ?_));cases h;exact aR z2 [.eq z2] 1 ⟨rfl,trivial⟩ rfl
def fK(k:Nat)(a0:bM)(a1:Int)(a2:Int):Option (Int×bM):=
 (ck (a2 - a1)).bind λx1=>
 (cy k (a0.1,a0.2.1,a0.2.2) x1).bind λr2=>
 (ck (a1+r2.1)).bind λx3=>
 some (x3,(r2.2.1,r2.2.2.1,r2.2.2.2))
theorem i7(k:Nat)(a0:bM)(c:Nat)(a1:Int)(a2:Int)(r:Int×bM)(h:fK k a0 a1 a2=some r):
 dG Tryz.prog 57 [Pt c,I a1,I a2] [.obj c 71 (.agg (.pair (.rep Tl a0.1) (.pair (I a0.2.1) (.eq (.int .u64 a0.2.2)))))] (λ_:Unit=>(bL [I r.1],[.obj c 71 (.agg (.pair (.rep Tl r.2.1) (.pair (I r.2.2.1) (.eq (.int .u64 r.2.2.2)))))])):=by
 unfold fK at h
 replace h:=bo h
 refine dG.of 14 Tryz.func57 rfl Tryz.ntmps57 rfl λS w0=>?_
 refine sr ?_
 refine cq ?_
 refine nt ?_
 refine sr ?_
 iterate 4 refine mq ?_
 obtain⟨x1,j,h⟩:=aa h
 refine jb (eN rfl j) ?_
 obtain⟨r2,l,h⟩:=aa h
 have n:=cK k (a0.1,a0.2.1,a0.2.2) c x1 r2 l
 refine kb (aA [.tmp 8,.tmp 11] rfl rfl vI rfl n) ?_
 obtain⟨x3,e,h⟩:=aa h
 refine jb (bh rfl e) ?_
 refine aq ?_
 refine nt ?_
 refine ay ?_
 cases h
 exact aR () [_] 1 ⟨rfl,trivial⟩ rfl
def gQ(k:Nat)(a0:bM)(a1:(List Int)):Option (Int×bM):=
 (ck ((a1.length:Int) - 1)).bind λx1=>
 (cy k (a0.1,a0.2.1,a0.2.2) x1).bind λr2=>
 (aJ a1 r2.1).bind λx3=>
 some (x3,(r2.2.1,r2.2.2.1,r2.2.2.2))
theorem lB(k:Nat)(a0:bM)(c:Nat)(a1:(List Int))(r:Int×bM)(h:gQ k a0 a1=some r):
 dG Tryz.prog 58 [Pt c,.rep Tl a1] [.obj c 71 (.agg (.pair (.rep Tl a0.1) (.pair (I a0.2.1) (.eq (.int .u64 a0.2.2)))))] (λ_:Unit=>(bL [I r.1],[.obj c 71 (.agg (.pair (.rep Tl r.2.1) (.pair (I r.2.2.1) (.eq (.int .u64 r.2.2.2)))))])):=by
 unfold gQ at h
 replace h:=bo h
 refine dG.of 13 Tryz.func58 rfl Tryz.ntmps58 rfl λS w0=>?_
 refine sr ?_
 refine cq ?_
 refine nt ?_
 refine sr ?_
 iterate 3 refine mq ?_
 refine ol iK ?_
 obtain⟨x1,j,h⟩:=aa h
 refine jb (eN rfl j) ?_
 obtain⟨r2,l,h⟩:=aa h
 have n:=cK k (a0.1,a0.2.1,a0.2.2) c x1 r2 l
 refine kb (aA [.tmp 6,.tmp 9] rfl rfl vI rfl n) ?_
 obtain⟨x3,e,h⟩:=aa h
 refine jb (bj (t:=Ti) rfl iK cM e) ?_
 refine ja (au (t:=Ti) rfl cM rfl) ?_
 refine aq ?_
 refine nt ?_
 refine ay ?_
 cases h
 exact aR () [_] 1 ⟨rfl,trivial⟩ rfl
def d4(k:Nat)(a1:Int):Nat->((List Int)×Int×Int×(List Int)×Int)->Option ((List Int)×(List Int)×Int×Int)
 |0,_=>none
 |n+1,y3=>
  if y3.2.2.2.2 < a1 then((cy k (y3.1,y3.2.1,y3.2.2.1) y3.2.2.2.2).bind λr5=>
  (cN (bP (length y3.2.2.2.1+length [y3.2.2.2.2]))).bind λ_=>
  (aJ (y3.2.2.2.1++[y3.2.2.2.2]) r5.1).bind λx8=>
  (aJ (y3.2.2.2.1++[y3.2.2.2.2]) y3.2.2.2.2).bind λx9=>
  (aJ (List.set (y3.2.2.2.1++[y3.2.2.2.2]) (Int.toNat y3.2.2.2.2) x8) r5.1).bind λe=>
  (ck (y3.2.2.2.2+1)).bind λc=>
  d4 k a1 n (r5.2.1,r5.2.2.1,r5.2.2.2,List.set (List.set (y3.2.2.2.1++[y3.2.2.2.2]) (Int.toNat y3.2.2.2.2) x8) (Int.toNat r5.1) y3.2.2.2.2,c)) else(some (y3.2.2.2.1,y3.1,y3.2.1,y3.2.2.1))
def gR(k:Nat)(a0:bM)(a1:Int):Option ((List Int)×bM):=
 ((d4 k a1 k (a0.1,a0.2.1,a0.2.2,([]:(List Int)),0)):Option ((List Int)×(List Int)×Int×Int)).bind λx1=>
 some (x1.1,(x1.2.1,x1.2.2.1,x1.2.2.2))
theorem rf(k:Nat)(a0:bM)(c:Nat)(a1:Int)(r:(List Int)×bM)(h:gR k a0 a1=some r):
 dG Tryz.prog 90 [Pt c,I a1] [.obj c 71 (.agg (.pair (.rep Tl a0.1) (.pair (I a0.2.1) (.eq (.int .u64 a0.2.2)))))] (λ_:Unit=>(bL [.rep Tl r.1],[.obj c 71 (.agg (.pair (.rep Tl r.2.1) (.pair (I r.2.2.1) (.eq (.int .u64 r.2.2.2)))))])):=by
 unfold gR at h
 replace h:=bo h
 refine dG.of 32 Tryz.func90 rfl Tryz.ntmps90 rfl λS w0=>?_
 refine sr ?_
 refine cq ?_
 refine nt ?_
 refine sr ?_
 refine cq ?_
 refine nt ?_
 refine aD (Z:=Value) (α:=(List Int)×(List Int)×Int×Int) (λz2 x1=>[(5,.eq z2)]) (λz2 x1=>[.sl z2 3 Ti x1.1,.obj c 71 (.agg (.pair (.rep Tl x1.2.1) (.pair (I x1.2.2.1) (.eq (.int .u64 x1.2.2.2)))))]) h (λK h=>?_) (λz2 x1 h=>?_)
 .
  refine sr (cq (nt (aj ?_)));refine iL (SE.nil 3 Ti) ?_;refine aF (λz4 y3=>[(0,Pt c),(1,I a1),(5,.eq z4),(6,I y3.2.2.2.2)]) (λz4 y3=>[.obj c 71 (.agg (.pair (.rep Tl y3.1) (.pair (I y3.2.1) (.eq (.int .u64 y3.2.2.1))))),.sl z4 3 Ti y3.2.2.2.1]) (d4 k a1) k (.slice none 0 0) (a0.1,a0.2.1,a0.2.2,([]:(List Int)),0) (λ_=>rfl) h (SE.fin [1,0] ⟨rfl,rfl,rfl,rfl,trivial⟩ rfl) (λn z4 y3 h=>?_);unfold d4 at h;refine ak (sr ?_);iterate 2 refine mq ?_
  refine jb (bK rfl) ?_;refine nt (ci h (λh=>?_) (λh=>?_))
  .refine sk (ak (aj (sr ?_)));iterate 2 refine mq ?_
   obtain⟨r5,y,h⟩:=aa h;refine kb (aA [.tmp 13,.tmp 14] rfl rfl vI rfl (cK k (y3.1,y3.2.1,y3.2.2.1) c y3.2.2.2.2 r5 y)) ?_;refine aq (nt (sr ?_));iterate 2 refine mq ?_
   refine ja (bb (t:=Ti) [(.tmp 17,_)] [y3.2.2.2.2] rfl rfl dT (.cons rfl .int .nil) rfl rfl) ?_;obtain⟨u6,x,h⟩:=aa h;refine fr 1 ?_;refine er rfl rfl rfl (cI rfl rfl dT (am x)) ⟨rfl,rfl,trivial⟩ λv7=>?_;refine aq (nt (ab ?_));iterate 6 refine mq ?_
   obtain⟨x8,l,h⟩:=aa h;refine kb (bq (t:=Ti) rfl iK cM l) ?_;refine ka (dI (i:=Int.toNat r5.1) (off:=0) rfl cM (λ_=>rfl) rfl (cL l).2.2 rfl) ?_;refine mq ?_;obtain⟨x9,j,h⟩:=aa h;refine kb (bq (t:=Ti) rfl iK cM j) ?_;refine aM rfl rfl (fG (i:=Int.toNat y3.2.2.2.2) rfl cM rfl (l7 j) rfl .int rfl) ⟨rfl,rfl,trivial⟩ ?_;obtain⟨D,e,h⟩:=aa h;refine kb (bq (t:=Ti) rfl iK cM e) ?_;refine aM rfl rfl (fG (i:=Int.toNat r5.1) rfl cM rfl (l7 e) rfl .int rfl) ⟨rfl,rfl,trivial⟩ ?_;refine aC (aN (tn (ab (mq ?_))));obtain⟨u,s,h⟩:=aa h;refine jb (bh rfl s) ?_;refine aq (nl ?_);exact jz (v7,(r5.2.1,r5.2.2.1,r5.2.2.2,List.set (List.set (y3.2.2.2.1++[y3.2.2.2.2]) (Int.toNat y3.2.2.2.2) x8) (Int.toNat r5.1) y3.2.2.2.2,u)) h [1,0]
  .refine xa ?_;exact jz (z4,(y3.2.2.2.1,y3.1,y3.2.1,y3.2.2.1)) h [1,0]
 .
  refine sr (mq ?_);refine aq (nt (ay ?_));refine bY (jt [4,5,31] ⟨rfl,rfl,rfl,trivial⟩) ?_;cases h;exact aR () [_] 1 ⟨rfl,trivial⟩ rfl
def lZ(k:Nat)(a0:(List Int)):Option bM:=
 some (a0,0,1)
theorem uB(k:Nat)(a0:(List Int))(r:bM)(h:lZ k a0=some r):
 dG Tryz.prog 10 [.rep Tl a0] [] (λz:Nat=>(bL [Pt z],[.obj z 71 (.agg (.pair (.rep Tl r.1) (.pair (I r.2.1) (.eq (.int .u64 r.2.2)))))])):=by
 unfold lZ at h
 replace h:=bo h
 refine dG.of 6 Tryz.func10 rfl Tryz.ntmps10 rfl λS w0=>?_
 refine sr ?_
 refine cq ?_
 refine nt ?_
 refine sr ?_
 refine mq ?_
 refine jb (dq [(0,.tmp 3,_),(2,.const (.int .u64 (1)),_)] rfl SH SA Rt (hP ⟨rfl,rfl,trivial⟩) rfl) ?_
 refine aX rfl rfl rfl (wn rfl trivial) ⟨rfl,trivial⟩ λb1=>?_
 refine aq ?_
 refine nt ?_
 refine ay ?_
 cases h
 exact aR b1 [Pt b1] 1 ⟨rfl,trivial⟩ rfl
def fV(k:Nat)(a0:Int)(a1:Int):Option Int:=
 (cN (0≤a1)).bind λ_=>
 some (C6 .u8 a0 (ou .u8 1 a1))
theorem kl(k:Nat)(a0:Int)(a1:Int)(r:Int)(h:fV k a0 a1=some r):
 dG Tryz.prog 62 [.eq (.int .u8 a0),I a1] [] (λ_:Unit=>(bL [.eq (.int .u8 r)],[])):=by
 unfold fV at h
 replace h:=bo h
 refine dG.of 9 Tryz.func62 rfl Tryz.ntmps62 rfl λS w0=>?_
 refine sr ?_
 refine cq ?_
 refine nt ?_
 refine sr ?_
 iterate 2 refine mq ?_
 obtain⟨u1,c,h⟩:=aa h
 refine jb (Na rfl (am c)) ?_
 refine jb (SI rfl) ?_
 refine aq ?_
 refine nt ?_
 refine ay ?_
 cases h
 exact ra
def dJ(k:Nat)(a0:Int)(a1:Int)(a2:Int):Option Bool:=
 ((if a1≤a0 then(some (decide (a0≤a2))) else(some false)):Option (Bool)).bind λx1=>
 some x1
theorem dO(k:Nat)(a0:Int)(a1:Int)(a2:Int)(r:Bool)(h:dJ k a0 a1 a2=some r):
 dG Tryz.prog 71 [I a0,I a1,I a2] [] (λ_:Unit=>(bL [.eq (.bool r)],[])):=by
 unfold dJ at h
 replace h:=bo h
 refine dG.of 15 Tryz.func71 rfl Tryz.ntmps71 rfl λS w0=>?_
 refine sr ?_
 refine cq ?_
 refine nt ?_
 refine aD (Z:=Unit) (α:=Bool) (λz2 x1=>[(6,.eq (.bool x1))]) (λz2 x1=>[]) h (λK h=>?_) (λz2 x1 h=>?_)
 .
  refine ab ?_;iterate 2 refine mq ?_
  refine jb (zi rfl) ?_;refine mq ?_;refine ce (s:=10) rfl (λhb=>?_) (λhb=>?_)
  .replace h:=eM (vJ hb) h;refine gm ?_;refine gm ?_;refine gb (zi rfl) ?_;refine pt ?_;refine aq (nl ?_);exact jz ((),decide (a0≤a2)) h []
  .replace h:=cV (vK hb) h;iterate 3 refine gn ?_
   refine pf ?_;refine aq (nl ?_);exact jz ((),false) h []
 .
  refine ay ?_;cases h;exact ra
def ge(k:Nat)(a0:ae)(a1:bI):Option Int:=
 (((ck (a0.1 - 1)).bind λx5=>
 (dJ k a1.1 0 x5).bind λr6=>
 if¬(r6=true) then(some true) else((dJ k a1.2.1 0 (a0.2.2.2.2.1.length:Int)).bind λr7=>
 some (!r7))):Option (Bool)).bind λx3=>
 if x3=true then(some 3) else(some 0)
theorem qe(k:Nat)(a0:ae)(a1:bI)(r:Int)(h:ge k a0 a1=some r):
 dG Tryz.prog 54 [.rep ao a0,.rep bf a1] [] (λ_:Unit=>(bL [I r],[])):=by
 unfold ge at h
 replace h:=bo h
 refine dG.of 21 Tryz.func54 rfl Tryz.ntmps54 rfl λS w0=>?_
 refine sr ?_
 refine bx λb1=>?_
 refine bx λb2=>?_
 refine cq ?_
 refine nt ?_
 refine ak ?_
 refine aD (Z:=Unit) (α:=Bool) (λz4 x3=>[(20,.eq (.bool x3))]) (λz4 x3=>[]) h (λK h=>?_) (λz4 x3 h=>?_)
 .
  refine ab (fl Ib ?_);refine lo cM ?_;refine fl gp ?_;refine fr 1 ?_;refine lo cM ?_;obtain⟨x5,c,h⟩:=aa h;refine jb (eN rfl c) ?_;obtain⟨r6,j,h⟩:=aa h;refine jc (aA [.tmp 6,.const (.int .i64 (0)),.tmp 9] rfl rfl ye rfl (dO k a1.1 0 x5 r6 j)) ?_;refine ja (iE rfl) ?_;refine mq ?_;refine ce (s:=12) rfl (λhb=>?_) (λhb=>?_)
  .replace h:=eM (xC hb) h;iterate 7 refine gn ?_
   refine pt (nl ?_);exact jz ((),true) h []
  .replace h:=cV (qN hb) h;refine ga (aH rfl Ia) ?_;refine fr 1 ?_;refine jv rfl rfl rfl rfl rfl rfl (av rfl cM pr rfl) ⟨rfl,trivial⟩ ?_;refine ga (aH rfl eh) ?_;refine fr 1 ?_;refine jv rfl rfl rfl rfl rfl rfl (av rfl kD pr rfl) ⟨rfl,trivial⟩ ?_;refine ga (pC rfl rfl vl) ?_;obtain⟨r7,e,h⟩:=aa h;refine gc (aA [.tmp 14,.const (.int .i64 (0)),.tmp 17] rfl rfl ye rfl (dO k a1.2.1 0 (a0.2.2.2.2.1.length:Int) r7 e)) ?_;refine ga (iE rfl) ?_;refine pf (nl ?_);exact jz ((), !r7) h []
 .
  refine cv h (λh=>?_) (λh=>?_)
  .refine sr (cq (nt (rx ?_)));cases h;exact ra
  .refine sk (sr (cq (nt (ay ?_))));cases h;exact ra
def eX(k:Nat)(a0:Int)(a1:Int):Option Bool:=
 (cN (0≤a1)).bind λ_=>
 some (decide ((qj .u8 (ii .u8 a0 a1) 1)=1))
theorem gJ(k:Nat)(a0:Int)(a1:Int)(r:Bool)(h:eX k a0 a1=some r):
 dG Tryz.prog 75 [.eq (.int .u8 a0),I a1] [] (λ_:Unit=>(bL [.eq (.bool r)],[])):=by
 unfold eX at h
 replace h:=bo h
 refine dG.of 10 Tryz.func75 rfl Tryz.ntmps75 rfl λS w0=>?_
 refine sr ?_
 refine cq ?_
 refine nt ?_
 refine sr ?_
 iterate 2 refine mq ?_
 obtain⟨u1,c,h⟩:=aa h
 refine jb (uh rfl (am c)) ?_
 refine jb (Qq rfl) ?_
 refine jb (fH rfl) ?_
 refine aq ?_
 refine nt ?_
 refine ay ?_
 cases h
 exact ra
def de(k:Nat)(a0:ae)(x8:(List Int)):Nat->(Int×Int)->Option (Except Int Int)
 |0,_=>none
 |n+1,y9=>
  if y9.2 < (x8.length:Int) then((aJ x8 y9.2).bind λc=>
  (ck (a0.1 - 1)).bind λh=>
  (dJ k c 0 h).bind λr=>
  if¬(r=true) then(some (.error 3)) else((eX k y9.1 c).bind λl=>
  if l=true then(some (.error 4)) else((fV k y9.1 c).bind λj=>
  (ck (y9.2+1)).bind λe=>
  de k a0 x8 n (j,e)))) else(some (.ok y9.1))
def dh(k:Nat)(a0:ae)(a1:(List (List Int))):Nat->(Int×Int)->Option (Except Int Unit)
 |0,_=>none
 |n+1,y4=>
  if y4.2 < (a1.length:Int) then(bE (α:=Int) ((aJ a1 y4.2).bind λx8=>
  de k a0 x8 k (y4.1,0)) (λe=>some (.error e)) λx6=>
  (ck (y4.2+1)).bind λc=>
  dh k a0 a1 n (x6,c)) else(some (.ok ()))
def iW(k:Nat)(a0:ae)(a1:(List (List Int))):Option Int:=
 if 3 < (a1.length:Int) then(some 6) else(bE (α:=Unit) (dh k a0 a1 k (0,0)) (some) λ_=>
 some 0)
theorem tl(k:Nat)(a0:ae)(a1:(List (List Int)))(r:Int)(h:iW k a0 a1=some r):
 dG Tryz.prog 101 [.rep ao a0,.rep (.slice Tl) a1] [] (λ_:Unit=>(bL [I r],[])):=by
 unfold iW at h
 replace h:=bo h
 refine dG.of 39 Tryz.func101 rfl Tryz.ntmps101 rfl λS w0=>?_
 refine sr ?_
 refine bx λb1=>?_
 refine cq ?_
 refine nt ?_
 refine ak ?_
 refine sr ?_
 refine mq ?_
 refine ol qx ?_
 refine jb (lT rfl) ?_
 refine nt ?_
 refine ci h (λh=>?_) (λh=>?_)
 .
  refine sr (cq (nt (rx ?_)));cases h;exact ra
 .
  refine sk (sr (cq (nt ?_)));refine dx (Z:=Unit) (α:=Unit) (λz3 x2=>[]) (λz3 x2=>[]) (λe=>e=r) h (λe h=>Option.some.inj h) (λK hR h=>?_) (λz3 x2 h=>?_)
  .refine sr (mq ?_);refine ol qx ?_;refine eP rfl ?_;refine nt (aj (aF (λz5 y4=>[(2,Pt b1),(5,.eq (.int .u8 y4.1)),(13,.rep (.slice Tl) a1),(14,I (a1.length:Int)),(15,I y4.2)]) (λz5 y4=>[.obj b1 26 (.rep ao a0)]) (dh k a0 a1) k () (0,0) (λ_=>rfl) h (SE.fin [0] ⟨rfl,rfl,rfl,rfl,rfl,trivial⟩ rfl) (λn z5 y4 h=>?_)));unfold dh at h;refine sr (jb (bK rfl) ?_);refine nt (ak (ci h (λh=>?_) (λh=>?_)))
   .refine sk (dx (Z:=Unit) (α:=Int) (λz7 x6=>[(2,Pt b1),(5,.eq (.int .u8 x6)),(13,.rep (.slice Tl) a1),(14,I (a1.length:Int)),(15,I y4.2)]) (λz7 x6=>[.obj b1 26 (.rep ao a0)]) (λe=>e=r) h (λe h=>hR e h) (λK hR h=>?_) (λz7 x6 h=>?_))
    .refine aj (sr ?_);obtain⟨x8,X,h⟩:=aa h;refine jb (bj (t:=Tl) rfl qx iQ X) ?_;refine ja (au (t:=Tl) rfl iQ rfl) ?_;refine aq (nt (sr ?_));refine mq ?_;refine ol iK ?_;refine eP rfl ?_;refine nt (aj (aF (λj y9=>[(2,Pt b1),(5,.eq (.int .u8 y9.1)),(13,.rep (.slice Tl) a1),(14,I (a1.length:Int)),(15,I y4.2),(19,.rep Tl x8),(20,I (x8.length:Int)),(21,I y9.2)]) (λj y9=>[.obj b1 26 (.rep ao a0)]) (de k a0 x8) k () (y4.1,0) (λ_=>rfl) h (SE.fin [0] ⟨rfl,rfl,rfl,rfl,rfl,rfl,rfl,rfl,trivial⟩ rfl) (λn j y9 h=>?_)));unfold de at h;refine sr (jb (bK rfl) ?_);refine nt (ak (ci h (λh=>?_) (λh=>?_)))
     .refine sk (ak (aj (sr ?_)));obtain⟨c,y,h⟩:=aa h;refine jb (bj (t:=Ti) rfl iK cM y) ?_;refine ja (au (t:=Ti) rfl cM rfl) ?_;refine aq (nt (ak (sr ?_)));refine mq ?_;refine fl gp ?_;refine lo cM ?_;obtain⟨O,x,h⟩:=aa h;refine jb (eN rfl x) ?_;obtain⟨U,F,h⟩:=aa h;refine jc (aA [.tmp 25,.const (.int .i64 (0)),.tmp 28] rfl rfl ye rfl (dO k c 0 O U F)) ?_;refine ja (iE rfl) ?_;refine nt (cw h (λh=>?_) (λh=>?_))
      .refine sr (cq (nt (rx (br (aZ (br (aZ (aU ?_))))))));obtain rfl:=hR _ h;exact ra
      .refine sk (ak (sr ?_));iterate 2 refine mq ?_
       obtain⟨Q,E,h⟩:=aa h;refine jb (aA [.tmp 31,.tmp 32] rfl rfl Ij rfl (gJ k y9.1 c Q E)) ?_;refine nt (cv h (λh=>?_) (λh=>?_))
       .refine sr (cq (nt (rx (br (aZ (br (aZ (aU ?_))))))));obtain rfl:=hR _ h;exact ra
       .refine sk (ab ?_);iterate 2 refine mq ?_
        obtain⟨l,D,h⟩:=aa h;refine jb (aA [.tmp 34,.tmp 35] rfl rfl OT rfl (kl k y9.1 c l D)) ?_;refine aq (aC (aN (tn (ab ?_))));obtain⟨M,u,h⟩:=aa h;refine jb (bh rfl u) ?_;refine mq (nl ?_);exact jz ((),(l,M)) h [0]
     .refine eu (bv (bv (cH (bn ?_))));exact jz ((),y9.1) h [0]
    .refine ab ?_;obtain⟨J,s,h⟩:=aa h;refine jb (bh rfl s) ?_;refine mq (nl ?_);exact jz ((),(x6,J)) h [0]
   .refine xa ?_;exact jz ((),()) h []
  .refine sr (cq (nt (ay ?_)));cases h;exact ra
def fg(k:Nat)(a0:ae):Nat->Int->Option (Except Int Unit)
 |0,_=>none
 |n+1,c=>
  if c < (a0.2.2.2.2.1.length:Int) then((aJ a0.2.2.2.2.1 c).bind λj=>
  (iW k a0 j).bind λe=>
  if¬(e=0) then(some (.error e)) else((ck (c+1)).bind λh=>
  fg k a0 n h)) else(some (.ok ()))
def ff(k:Nat)(a0:ae):Nat->Int->Option (Except Int Unit)
 |0,_=>none
 |n+1,c=>
  if c < (a0.2.2.2.2.2.length:Int) then((aJ a0.2.2.2.2.2 c).bind λj=>
  (ge k a0 j).bind λe=>
  if¬(e=0) then(some (.error e)) else((ck (c+1)).bind λh=>
  ff k a0 n h)) else(some (.ok ()))
def mI(k:Nat)(a0:ae):Option Int:=
 (((dJ k a0.1 1 5).bind λr4=>
 if¬(r4=true) then(some true) else((dJ k a0.2.1 0 3).bind λr5=>
 if¬(r5=true) then(some true) else((dJ k a0.2.2.1 0 3).bind λr6=>
 if¬(r6=true) then(some true) else((dJ k a0.2.2.2.1 1 3).bind λr7=>
 some (!r7))))):Option (Bool)).bind λx2=>
 if x2=true then(some 1) else(if(a0.2.2.2.2.1.length:Int) < 1 then(some 7) else(if 6 < (a0.2.2.2.2.1.length:Int) then(some 6) else(bE (α:=Unit) (fg k a0 k 0) (some) λ_=>
 if 8 < (a0.2.2.2.2.2.length:Int) then(some 6) else(bE (α:=Unit) (ff k a0 k 0) (some) λ_=>
 some 0))))
theorem xI(k:Nat)(a0:ae)(r:Int)(h:mI k a0=some r):
 dG Tryz.prog 70 [.rep ao a0] [] (λ_:Unit=>(bL [I r],[])):=by
 unfold mI at h
 replace h:=bo h
 refine dG.of 73 Tryz.func70 rfl Tryz.ntmps70 rfl λS w0=>?_
 refine sr ?_
 refine bx λb1=>?_
 refine cq ?_
 refine nt ?_
 refine ak ?_
 refine aD (Z:=Unit) (α:=Bool) (λz3 x2=>[(1,Pt b1),(31,.eq (.bool x2))]) (λz3 x2=>[.obj b1 26 (.rep ao a0)]) h (λK h=>?_) (λz3 x2 h=>?_)
 .
  refine ab (fl gp ?_);refine lo cM ?_;obtain⟨r4,UN,h⟩:=aa h;refine jc (aA [.tmp 11,.const (.int .i64 (1)),.const (.int .i64 (5))] rfl rfl ye rfl (dO k a0.1 1 5 r4 UN)) ?_;refine ja (iE rfl) ?_;refine mq ?_;refine ce (s:=14) rfl (λhb=>?_) (λhb=>?_)
  .replace h:=eM (xC hb) h;iterate 4 refine gn ?_
   refine pt ?_;refine mq ?_;iterate 4 refine gn ?_
   refine pt ?_;refine mq ?_;iterate 4 refine gn ?_
   refine pt (nl ?_);exact jz ((),true) h [0]
  .replace h:=cV (qN hb) h;refine ga (aH rfl BG) ?_;refine jv rfl rfl rfl rfl rfl rfl (av rfl cM pr rfl) ⟨rfl,trivial⟩ ?_;obtain⟨r5,zz,h⟩:=aa h;refine gc (aA [.tmp 16,.const (.int .i64 (0)),.const (.int .i64 (3))] rfl rfl ye rfl (dO k a0.2.1 0 3 r5 zz)) ?_;refine ga (iE rfl) ?_;refine pf ?_;refine mq ?_;refine ce (s:=20) rfl (λhb=>?_) (λhb=>?_)
   .replace h:=eM (xC hb) h;iterate 4 refine gn ?_
    refine pt ?_;refine mq ?_;iterate 4 refine gn ?_
    refine pt (nl ?_);exact jz ((),true) h [0]
   .replace h:=cV (qN hb) h;refine ga (aH rfl BF) ?_;refine jv rfl rfl rfl rfl rfl rfl (av rfl cM pr rfl) ⟨rfl,trivial⟩ ?_;obtain⟨r6,qt,h⟩:=aa h;refine gc (aA [.tmp 22,.const (.int .i64 (0)),.const (.int .i64 (3))] rfl rfl ye rfl (dO k a0.2.2.1 0 3 r6 qt)) ?_;refine ga (iE rfl) ?_;refine pf ?_;refine mq ?_;refine ce (s:=26) rfl (λhb=>?_) (λhb=>?_)
    .replace h:=eM (xC hb) h;iterate 4 refine gn ?_
     refine pt (nl ?_);exact jz ((),true) h [0]
    .replace h:=cV (qN hb) h;refine ga (aH rfl Ic) ?_;refine jv rfl rfl rfl rfl rfl rfl (av rfl cM pr rfl) ⟨rfl,trivial⟩ ?_;obtain⟨r7,mw,h⟩:=aa h;refine gc (aA [.tmp 28,.const (.int .i64 (1)),.const (.int .i64 (3))] rfl rfl ye rfl (dO k a0.2.2.2.1 1 3 r7 mw)) ?_;refine ga (iE rfl) ?_;refine pf (nl ?_);exact jz ((), !r7) h [0]
 .
  refine cv h (λh=>?_) (λh=>?_)
  .refine sr (cq (nt (rx ?_)));cases h;exact ra
  .refine sk (ak (sr (fl eh ?_)));refine lo kD ?_;refine ol vl ?_;refine aq (nt (aj (sr ?_)));refine mq ?_;refine jb (bK rfl) ?_;refine aq (nt ?_);refine ci h (λh=>?_) (λh=>?_)
   .refine sr (cq (nt (ay (aZ (aU ?_)))));cases h;exact ra
   .refine sr (mq ?_);refine jb (lT rfl) ?_;refine aq (nt ?_);refine ci h (λh=>?_) (λh=>?_)
    .refine sr (cq (nt (ay (aZ (aU ?_)))));cases h;exact ra
    .refine aY (aN (tn (dx (Z:=Unit) (α:=Unit) (λz9 x8=>[(1,Pt b1)]) (λz9 x8=>[.obj b1 26 (.rep ao a0)]) (λe=>e=r) h (λe h=>Option.some.inj h) (λK hR h=>?_) (λz9 x8 h=>?_))))
     .refine sr (fl eh ?_);refine lo kD ?_;refine ol vl ?_;refine eP rfl ?_;refine nt (aj (aF (λx j=>[(1,Pt b1),(42,.rep (.slice (.slice Tl)) a0.2.2.2.2.1),(43,I (a0.2.2.2.2.1.length:Int)),(44,I j)]) (λx j=>[.obj b1 26 (.rep ao a0)]) (fg k a0) k () 0 (λ_=>rfl) h (SE.fin [0] ⟨rfl,rfl,rfl,rfl,trivial⟩ rfl) (λn x j h=>?_)));unfold fg at h;refine sr (jb (bK rfl) ?_);refine nt (ak (ci h (λh=>?_) (λh=>?_)))
      .refine sk (ak (aj (sr ?_)));obtain⟨Y,J,h⟩:=aa h;refine jb (bj (t:=(.slice Tl)) rfl vl te J) ?_;refine ja (au (t:=(.slice Tl)) rfl te rfl) ?_;refine aq (nt (sr ?_));refine lo hJ ?_;refine mq ?_;obtain⟨mc,O,h⟩:=aa h;refine jb (aA [.tmp 48,.tmp 49] rfl rfl Rn rfl (tl k a0 Y mc O)) ?_;refine aq (nt (sr ?_));refine mq ?_;refine jb (dZ rfl) ?_;refine nt (cn h (λh=>?_) (λh=>?_))
       .refine sr (mq ?_);refine aq (nt (ay (br (aZ (aU ?_)))));obtain rfl:=hR _ h;exact ra
       .refine aY (aN (tn (ab ?_)));obtain⟨X,F,h⟩:=aa h;refine jb (bh rfl F) ?_;refine mq (nl ?_);exact jz ((),X) h [0]
      .refine xa ?_;exact jz ((),()) h [0]
     .refine ak (sr (fl uL ?_));refine lo Gs ?_;refine ol Rx ?_;refine jb (lT rfl) ?_;refine nt (ci h (λh=>?_) (λh=>?_))
      .refine sr (cq (nt (rx ?_)));cases h;exact ra
      .refine sk (dx (Z:=Unit) (α:=Unit) (λu y=>[]) (λu y=>[]) (λe=>e=r) h (λe h=>Option.some.inj h) (λK hR h=>?_) (λu y h=>?_))
       .refine sr (fl uL ?_);refine lo Gs ?_;refine ol Rx ?_;refine eP rfl ?_;refine nt (aj (aF (λl c=>[(1,Pt b1),(60,Rs bf a0.2.2.2.2.2),(61,I (a0.2.2.2.2.2.length:Int)),(62,I c)]) (λl c=>[.obj b1 26 (.rep ao a0)]) (ff k a0) k () 0 (λ_=>rfl) h (SE.fin [0] ⟨rfl,rfl,rfl,rfl,trivial⟩ rfl) (λn l c h=>?_)));unfold ff at h;refine sr (jb (bK rfl) ?_);refine nt (ak (ci h (λh=>?_) (λh=>?_)))
        .refine sk (ak (aj (sr ?_)));obtain⟨U,E,h⟩:=aa h;refine jb (bj (t:=bf) rfl Rx tV E) ?_;refine ja (au (t:=bf) rfl tV rfl) ?_;refine aX rfl rfl rfl (bg rfl Ea LP) trivial λUO=>?_;refine aM rfl rfl (aL rfl tV rfl rfl rfl) ⟨rfl,rfl,trivial⟩ ?_;refine nt (sr (fr 1 ?_));refine lo hJ ?_;refine fr 1 ?_;refine lo tV ?_;obtain⟨gw,M,h⟩:=aa h;refine jb (aA [.tmp 66,.tmp 67] rfl rfl TG rfl (qe k a0 U gw M)) ?_;refine aq (nt (sr ?_));refine mq ?_;refine jb (dZ rfl) ?_;refine nt (cn h (λh=>?_) (λh=>?_))
         .refine sr (mq ?_);refine aq (nt (ay (br (aZ (aU ?_)))));obtain rfl:=hR _ h;exact ra
         .refine aY (aN (tn (ab ?_)));obtain⟨Q,D,h⟩:=aa h;refine jb (bh rfl D) ?_;refine mq (nl ?_);exact jz ((),Q) h [1]
        .refine xa ?_;exact jz ((),()) h []
       .refine sr (cq (nt (ay ?_)));cases h;exact ra
def cF(k:Nat)(a0:ae)(a1:Int):Nat->((List Int)×Int)->Option (List Int)
 |0,_=>none
 |n+1,y5=>
  if y5.2 < 5 then((((cN (0≤y5.2/\y5.2 < 5)).bind λ_=>
  (eX k a1 y5.2).bind λe=>
  if e=true then((cN (0≤y5.2/\y5.2 < 5)).bind λ_=>
  some (List.set (List.set y5.1 (Int.toNat y5.2) (-1:Int)) (Int.toNat y5.2) a0.2.1)) else(some (List.set y5.1 (Int.toNat y5.2) (-1:Int)))):Option ((List Int))).bind λx7=>
  (ck (y5.2+1)).bind λc=>
  cF k a0 a1 n (x7,c)) else(some y5.1)
def eS(k:Nat)(a0:ae)(a1:Int):Option (List Int):=
 ((cF k a0 a1 k ([0,0,0,0,0],0)):Option ((List Int))).bind λx3=>
 some x3
theorem pZ{M:Md Tryz.prog}{bm:Nat}{c0 c1 c2 c3 c4 c5:Value}(hK:Kn M bm 0 [c0,c1,c2,c3,c4,c5])(k:Nat)(a0:ae)(a1:Int)(r:(List Int))(h:eS k a0 a1=some r):
 bZ M 78 [.rep (.mo (Pv bm) [c0,c1,c2,c3,c4,c5] ao) a0,.eq (.int .u8 a1)] [] (λ_:Unit=>(bL [.rep Tr r],[])):=by
 unfold eS at h
 replace h:=bo h
 refine bZ.of 24 Tryz.func78 rfl Tryz.ntmps78 rfl λS w0=>?_
 refine sr ?_
 refine aX rfl rfl rfl (bg rfl Jl LN) trivial λb1=>?_
 refine nt ?_
 refine sr ?_
 refine aX rfl rfl rfl (bg rfl Jl LN) trivial λb2=>?_
 refine nt ?_
 refine aD (Z:=Unit) (α:=(List Int)) (λz4 x3=>[(4,Pt b1),(5,Pt b2)]) (λz4 x3=>[.obj b1 80 (.rep Tr [0,0,0,0,0]),.obj b2 80 (.rep Tr x3)]) h (λK h=>?_) (λz4 x3 h=>?_)
 .
  refine sr (eP rfl ?_);refine nt (aj (aF (λz6 y5=>[(0,.rep (.mo (Pv bm) [c0,c1,c2,c3,c4,c5] ao) a0),(1,.eq (.int .u8 a1)),(4,Pt b1),(5,Pt b2),(7,I y5.2)]) (λz6 y5=>[.obj b1 80 (.rep Tr [0,0,0,0,0]),.obj b2 80 (.rep Tr y5.1)]) (cF k a0 a1) k () ([0,0,0,0,0],0) (λ_=>rfl) h (SE.fin [1,0] ⟨rfl,rfl,rfl,rfl,rfl,trivial⟩ rfl) (λn z6 y5 h=>?_)));unfold cF at h;refine sr (jb (bK rfl) ?_);refine nt (ak (ci h (λh=>?_) (λh=>?_)))
  .refine sk (aD (Z:=Unit) (α:=(List Int)) (λz8 x7=>[(0,.rep (.mo (Pv bm) [c0,c1,c2,c3,c4,c5] ao) a0),(1,.eq (.int .u8 a1)),(4,Pt b1),(5,Pt b2),(7,I y5.2)]) (λz8 x7=>[.obj b1 80 (.rep Tr [0,0,0,0,0]),.obj b2 80 (.rep Tr x7)]) h (λK h=>?_) (λz8 x7 h=>?_))
   .refine aj (sr (mq ?_));refine aq (nt (sr ?_));refine mq ?_;obtain⟨u9,e,h⟩:=aa h;refine jb (dU rfl AM cM (am e).1 (am e).2) ?_;refine fr 1 ?_;refine aM rfl rfl (gG (t:=Ti) (off:=0) (i:=y5.2) (N:=5) rfl cM .int rfl rfl rfl rfl (am e).1 (am e).2 rfl) ⟨rfl,rfl,trivial⟩ ?_;refine nt (sr ?_);iterate 2 refine mq ?_
    obtain⟨u,l,h⟩:=aa h;refine jb (aA [.tmp 12,.tmp 13] rfl rfl Ij rfl (gJ k a1 y5.2 u l)) ?_;refine nt (cv h (λh=>?_) (λh=>?_))
    .refine ab ?_;iterate 2 refine mq ?_
     refine ja (lr rfl) ?_;refine ja (gI rfl gY) ?_;refine ja (iw 1 false rfl BG rfl rfl) ?_;refine ja (jj (t:=Ti) rfl cM (hK.sub 1 1 rfl (le_of_ble_eq_true rfl)) rfl rfl) ?_;obtain⟨x,c,h⟩:=aa h;refine jb (dU rfl AM cM (am c).1 (am c).2) ?_;refine aM rfl rfl (gG (t:=Ti) (off:=0) (i:=y5.2) (N:=5) rfl cM .int rfl rfl rfl rfl (am c).1 (am c).2 rfl) ⟨rfl,rfl,trivial⟩ ?_;refine aC (bn ?_);exact jz ((),List.set (List.set y5.1 (Int.toNat y5.2) (-1:Int)) (Int.toNat y5.2) a0.2.1) h [1,0]
    .refine aY (bn ?_);exact jz ((),List.set y5.1 (Int.toNat y5.2) (-1:Int)) h [1,0]
   .refine ab ?_;obtain⟨s,j,h⟩:=aa h;refine jb (bh rfl j) ?_;refine mq (nl ?_);exact jz ((),(x7,s)) h [0,1]
  .refine xa ?_;exact jz ((),y5.1) h [0,1]
 .
  refine sr (fr 1 ?_);refine lo iP ?_;refine fr 1 ?_;refine aM rfl rfl (aL rfl iP rfl rfl rfl) ⟨rfl,rfl,trivial⟩ ?_;refine nt (ay ?_);obtain rfl:=Option.some.inj h;exact aR () [.rep Tr x3] 0 ⟨⟨_,_,_,_,_,rfl,(.head _),iP,(qR),rfl⟩,trivial⟩ rfl
def dn(k:Nat)(a0:(List Int))(a1:Int):Nat->Int->Option (Except Int Unit)
 |0,_=>none
 |n+1,y3=>
  if y3 < (a0.length:Int) then((aJ a0 y3).bind λx5=>
  if a1=x5 then(some (.error y3)) else((ck (y3+1)).bind λx6=>
  dn k a0 a1 n x6)) else(some (.ok ()))
def gh(k:Nat)(a0:(List Int))(a1:Int):Option Int:=
 bE (α:=Unit) (dn k a0 a1 k 0) (some) λ_=>
 some (-1:Int)
theorem my(k:Nat)(a0:(List Int))(a1:Int)(r:Int)(h:gh k a0 a1=some r):
 dG Tryz.prog 82 [.rep Tl a0,I a1] [] (λ_:Unit=>(bL [I r],[])):=by
 unfold gh at h
 replace h:=bo h
 refine dG.of 19 Tryz.func82 rfl Tryz.ntmps82 rfl λS w0=>?_
 refine sr ?_
 refine cq ?_
 refine nt ?_
 refine dx (Z:=Unit) (α:=Unit) (λz2 x1=>[]) (λz2 x1=>[]) (λe=>e=r) h (λe h=>Option.some.inj h) (λK hR h=>?_) (λz2 x1 h=>?_)
 .
  refine sr (mq ?_);refine ol iK ?_;refine eP rfl ?_;refine nt (aj (aF (λz4 y3=>[(0,.rep Tl a0),(1,I a1),(7,I (a0.length:Int)),(8,I y3)]) (λz4 y3=>[]) (dn k a0 a1) k () 0 (λ_=>rfl) h (SE.fin [] ⟨rfl,rfl,rfl,rfl,trivial⟩ rfl) (λn z4 y3 h=>?_)));unfold dn at h;refine sr (jb (bK rfl) ?_);refine nt (ak (ci h (λh=>?_) (λh=>?_)))
  .refine sk (ak (aj (sr (mq ?_))));refine aq (nt (sr ?_));iterate 3 refine mq ?_
   obtain⟨x5,j,h⟩:=aa h;refine jb (bj (t:=Ti) rfl iK cM j) ?_;refine ja (au (t:=Ti) rfl cM rfl) ?_;refine jb (fH rfl) ?_;refine nt (ci h (λh=>?_) (λh=>?_))
   .refine sr (mq ?_);refine aq (nt (ay (br (aZ (aU ?_)))));obtain rfl:=hR _ h;exact ra
   .refine aY (aN (tn (ab ?_)));obtain⟨x6,c,h⟩:=aa h;refine jb (bh rfl c) ?_;refine mq (nl ?_);exact jz ((),x6) h []
  .refine xa ?_;exact jz ((),()) h []
 .
  refine sr (cq (nt (ay ?_)));cases h;exact ra
def kX(k:Nat)(a0:Int):Option Bool:=
 some (!decide (a0=a0))
theorem ru(k:Nat)(a0:Int)(r:Bool)(h:kX k a0=some r):
 dG Tryz.prog 172 [I a0] [] (λ_:Unit=>(bL [.eq (.bool r)],[])):=by
 unfold kX at h
 replace h:=bo h
 refine dG.of 6 Tryz.func172 rfl Tryz.ntmps172 rfl λS w0=>?_
 refine sr ?_
 refine cq ?_
 refine nt ?_
 refine sr ?_
 iterate 2 refine mq ?_
 refine jb (dZ rfl) ?_
 refine aq ?_
 refine nt ?_
 refine ay ?_
 cases h
 exact ra
def oC(k:Nat)(a0:Int)(a1:Int):Option Bool:=
 (((kX k a0).bind λr3=>
 if r3=true then((kX k a1).bind λr4=>
 if¬(r4=true) then(some true) else(some (decide (a0 < a1)))) else(some (decide (a0 < a1)))):Option (Bool)).bind λx1=>
 some x1
theorem Ab(k:Nat)(a0:Int)(a1:Int)(r:Bool)(h:oC k a0 a1=some r):
 dG Tryz.prog 162 [I a0,I a1] [] (λ_:Unit=>(bL [.eq (.bool r)],[])):=by
 unfold oC at h
 replace h:=bo h
 refine dG.of 17 Tryz.func162 rfl Tryz.ntmps162 rfl λS w0=>?_
 refine sr ?_
 refine cq ?_
 refine nt ?_
 refine aD (Z:=Unit) (α:=Bool) (λz2 x1=>[(4,.eq (.bool x1))]) (λz2 x1=>[]) h (λK h=>?_) (λz2 x1 h=>?_)
 .
  refine ab (mq ?_);obtain⟨r3,e,h⟩:=aa h;refine ja (aA [.tmp 5] rfl rfl Nj rfl (ru k a0 r3 e)) ?_;refine mq ?_;refine ce (s:=7) rfl (λhb=>?_) (λhb=>?_)
  .replace h:=eM (MV hb) h;refine gm ?_;obtain⟨r4,c,h⟩:=aa h;refine ga (aA [.tmp 8] rfl rfl Nj rfl (ru k a1 r4 c)) ?_;refine ga (iE rfl) ?_;refine pt ?_;refine mq ?_;refine ce (s:=12) rfl (λhb=>?_) (λhb=>?_)
   .replace h:=eM (xC hb) h;iterate 3 refine gn ?_
    refine pt ?_;refine aq (nl ?_);exact jz ((),true) h []
   .replace h:=cV (qN hb) h;refine gm ?_;refine gm ?_;refine gb (bK rfl) ?_;refine pf ?_;refine aq (nl ?_);exact jz ((),decide (a0 < a1)) h []
  .replace h:=cV (MY hb) h;iterate 3 refine gn ?_
   refine pf ?_;refine mq ?_;refine gm ?_;refine gm ?_;refine gb (bK rfl) ?_;refine pf ?_;refine aq (nl ?_);exact jz ((),decide (a0 < a1)) h []
 .
  refine ay ?_;cases h;exact ra
def bF(k:Nat)(a1:Int):Nat->((List Int)×Int)->Option (List Int)
 |0,_=>none
 |n+1,y6=>
  ((if a1 < y6.2 then((aJ y6.1 y6.2).bind λu=>
  (ck (y6.2 - 1)).bind λs=>
  (aJ y6.1 s).bind λr=>
  (oC k u r).bind λx=>
  some x) else(some false)):Option (Bool)).bind λx8=>
  if x8=true then((ck (y6.2 - 1)).bind λe=>
  (ck (y6.2 - 1)).bind λl=>
  (aJ y6.1 l).bind λc=>
  (aJ y6.1 y6.2).bind λj=>
  (aJ y6.1 y6.2).bind λD=>
  (aJ (List.set y6.1 (Int.toNat y6.2) c) e).bind λy=>
  (ck (y6.2 - 1)).bind λh=>
  bF k a1 n (List.set (List.set y6.1 (Int.toNat y6.2) c) (Int.toNat e) j,h)) else(some y6.1)
def ba(k:Nat)(a1:Int)(a2:Int):Nat->((List Int)×Int)->Option (List Int)
 |0,_=>none
 |n+1,y2=>
  if y2.2 < a2 then(((bF k a1 k (y2.1,y2.2)):Option ((List Int))).bind λx4=>
  (ck (y2.2+1)).bind λc=>
  ba k a1 a2 n (x4,c)) else(some y2.1)
def bU(k:Nat)(a0:(List Int))(a1:Int)(a2:Int):Option (List Int):=
 (ck (a1+1)).bind λx1=>
 ba k a1 a2 k (a0,x1)
theorem jg(k:Nat)(a0:(List Int))(c:Value)(a1:Int)(a2:Int)(r:(List Int))(h:bU k a0 a1 a2=some r):
 dG Tryz.prog 156 [.eq c,I a1,I a2] [.sl c 3 Ti a0] (λ_:Unit=>(bL [],[.sl c 3 Ti r])):=by
 unfold bU at h
 replace h:=bo h
 refine dG.of 49 Tryz.func156 rfl Tryz.ntmps156 rfl λS w0=>?_
 refine sr ?_
 refine mq ?_
 obtain⟨x1,U2,h⟩:=aa h
 refine jb (bh rfl U2) ?_
 refine aq ?_
 refine nt ?_
 refine aj ?_
 refine aF (λz3 y2=>[(0,.eq c),(1,I a1),(2,I a2),(6,I y2.2)]) (λz3 y2=>[.sl c 3 Ti y2.1]) (ba k a1 a2) k () (a0,x1) (λ_=>rfl) h (SE.fin [0] ⟨rfl,rfl,rfl,rfl,trivial⟩ rfl) (λn z3 y2 h=>?_)
 unfold ba at h
 refine ak ?_
 refine sr ?_
 iterate 2 refine mq ?_
 refine jb (bK rfl) ?_
 refine nt ?_
 refine ci h (λh=>?_) (λh=>?_)
 .
  refine sk (aD (Z:=Unit) (α:=(List Int)) (λz5 x4=>[(0,.eq c),(1,I a1),(2,I a2),(6,I y2.2)]) (λz5 x4=>[.sl c 3 Ti x4]) h (λK h=>?_) (λz5 x4 h=>?_))
  .refine aj (sr (mq ?_));refine aq (nt (aj ?_));refine aF (λz7 y6=>[(0,.eq c),(1,I a1),(2,I a2),(6,I y2.2),(7,I y6.2)]) (λz7 y6=>[.sl c 3 Ti y6.1]) (bF k a1) k () (y2.1,y2.2) (λ_=>rfl) h (SE.fin [0] ⟨rfl,rfl,rfl,rfl,rfl,trivial⟩ rfl) (λn z7 y6 h=>?_);unfold bF at h;refine ak (aD (Z:=Unit) (α:=Bool) (λz9 x8=>[(0,.eq c),(1,I a1),(2,I a2),(6,I y2.2),(7,I y6.2),(30,.eq (.bool x8))]) (λz9 x8=>[.sl c 3 Ti y6.1]) h (λK h=>?_) (λz9 x8 h=>?_))
   .refine c9 ?_;refine dm ?_;refine dm ?_;refine db (lT rfl) ?_;refine yy rfl rfl rfl (bJ rfl) ⟨rfl,trivial⟩ (λhb=>?_) (λhb=>?_)
    .replace h:=eM (vJ hb) h;refine d5 rfl rfl rfl rfl rfl (bJ rfl) ⟨rfl,rfl,trivial⟩ ?_;refine d5 rfl rfl rfl rfl rfl (bJ rfl) ⟨rfl,rfl,trivial⟩ ?_;obtain⟨US,x,h⟩:=aa h;refine kQ 0 rfl rfl rfl rfl rfl rfl (bq (t:=Ti) rfl iK cM x) ⟨rfl,rfl,rfl,trivial⟩ ?_;refine kQ 0 rfl rfl rfl rfl rfl rfl (dI (i:=Int.toNat y6.2) (off:=0) rfl cM (λ_=>rfl) rfl (cL x).2.2 rfl) ⟨rfl,rfl,trivial⟩ ?_;refine d5 rfl rfl rfl rfl rfl (bJ rfl) ⟨rfl,rfl,trivial⟩ ?_;refine d5 rfl rfl rfl rfl rfl (bJ rfl) ⟨rfl,rfl,trivial⟩ ?_;obtain⟨UR,qt,h⟩:=aa h;refine d5 rfl rfl rfl rfl rfl (eN rfl qt) ⟨rfl,rfl,rfl,trivial⟩ ?_;obtain⟨UQ,u,h⟩:=aa h;refine kQ 0 rfl rfl rfl rfl rfl rfl (bq (t:=Ti) rfl iK cM u) ⟨rfl,rfl,rfl,trivial⟩ ?_;refine kQ 0 rfl rfl rfl rfl rfl rfl (dI (i:=Int.toNat UR) (off:=0) rfl cM (λ_=>rfl) rfl (cL u).2.2 rfl) ⟨rfl,rfl,trivial⟩ ?_;refine df eO ?_;obtain⟨F,zz,h⟩:=aa h;refine gb (aA [.tmp 23,.tmp 28] rfl rfl Q5 rfl (Ab k US UQ F zz)) ?_;refine pt (nl ?_);exact jz ((),F) h [0]
    .replace h:=cV (vK hb) h;iterate 9 refine dg ?_
     refine df eO ?_;refine gn ?_;refine pf (nl ?_);exact jz ((),false) h [0]
   .refine cv h (λh=>?_) (λh=>?_)
    .refine sk (ak (aj (rH ?_)));refine bT rfl rfl rfl (bJ rfl) ⟨rfl,trivial⟩ ?_;refine bT rfl rfl rfl (bJ rfl) ⟨rfl,trivial⟩ ?_;refine bT rfl rfl rfl (bJ rfl) ⟨rfl,trivial⟩ ?_;refine bT rfl rfl rfl (bJ rfl) ⟨rfl,trivial⟩ ?_;obtain⟨y,mw,h⟩:=aa h;refine bT rfl rfl rfl (eN rfl mw) ⟨rfl,rfl,trivial⟩ ?_;refine bT rfl rfl rfl (bJ rfl) ⟨rfl,trivial⟩ ?_;refine bT rfl rfl rfl (bJ rfl) ⟨rfl,trivial⟩ ?_;obtain⟨UP,mc,h⟩:=aa h;refine bT rfl rfl rfl (eN rfl mc) ⟨rfl,rfl,trivial⟩ ?_;obtain⟨E,s,h⟩:=aa h;refine hH 0 rfl rfl rfl rfl (bq (t:=Ti) rfl iK cM s) ⟨rfl,rfl,trivial⟩ ?_;refine hH 0 rfl rfl rfl rfl (dI (i:=Int.toNat UP) (off:=0) rfl cM (λ_=>rfl) rfl (cL s).2.2 rfl) ⟨rfl,trivial⟩ ?_;refine bT rfl rfl rfl (bJ rfl) ⟨rfl,trivial⟩ ?_;refine bT rfl rfl rfl (bJ rfl) ⟨rfl,trivial⟩ ?_;obtain⟨D,l,h⟩:=aa h;refine hH 0 rfl rfl rfl rfl (bq (t:=Ti) rfl iK cM l) ⟨rfl,rfl,trivial⟩ ?_;refine hH 0 rfl rfl rfl rfl (dI (i:=Int.toNat y6.2) (off:=0) rfl cM (λ_=>rfl) rfl (cL l).2.2 rfl) ⟨rfl,trivial⟩ ?_;obtain⟨Vg,j,h⟩:=aa h;refine hH 0 rfl rfl rfl rfl (bq (t:=Ti) rfl iK cM j) ⟨rfl,rfl,trivial⟩ ?_;refine ve 15 [true,true,false,false,false,true,true,true,true,true,true,true,true,true,true] [48] [] [] rfl (by kernel_rfl) (by kernel_rfl) (by kernel_rfl) eO (λvs hv hB=>?_);obtain⟨w0,Vu,rfl,U1⟩:=ax hv;obtain⟨w1,Vt,rfl,U0⟩:=ax U1;obtain⟨w2,Vs,rfl,UZ⟩:=ax U0;obtain⟨w3,Vr,rfl,UY⟩:=ax UZ;obtain⟨w4,Vq,rfl,UX⟩:=ax UY;obtain⟨w5,Vp,rfl,UW⟩:=ax UX;obtain⟨w6,Vo,rfl,UV⟩:=ax UW;obtain⟨w7,Vn,rfl,UU⟩:=ax UV;obtain⟨w8,Vm,rfl,UT⟩:=ax UU;obtain⟨w9,Ve,rfl,X⟩:=ax UT;obtain⟨Vl,Vb,rfl,U⟩:=ax X;obtain⟨Vk,Va,rfl,Q⟩:=ax U;obtain⟨Vj,U8,rfl,O⟩:=ax Q;obtain⟨Vi,U7,rfl,M⟩:=ax O;obtain⟨Vh,U6,rfl,J⟩:=ax M;obtain rfl:=qY J;refine⟨[0],[.sl c 3 Ti y6.1],by kernel_rfl,by decide,?_⟩;refine sW rfl rfl (fG (i:=Int.toNat y6.2) rfl cM rfl (l7 j) rfl .int rfl) ⟨rfl,rfl,trivial⟩ (by kernel_rfl) ?_;obtain⟨Vf,e,h⟩:=aa h;refine va rfl rfl rfl rfl (bq (t:=Ti) rfl iK cM e) ⟨rfl,rfl,trivial⟩ (by kernel_rfl) ?_;refine sW rfl rfl (fG (i:=Int.toNat y) rfl cM rfl (l7 e) rfl .int rfl) ⟨rfl,rfl,trivial⟩ (by kernel_rfl) ?_;refine yu ?_;refine bY (SE.fin (Γ':=[(0,.eq c),(1,I a1),(2,I a2),(6,I y2.2),(7,I y6.2)]) (Δ':=[.sl c 3 Ti (List.set (List.set y6.1 (Int.toNat y6.2) E) (Int.toNat y) D)]) [0] ⟨rfl,rfl,rfl,rfl,rfl,trivial⟩ rfl) ?_;refine aN (tn (ab (mq ?_)));obtain⟨UO,gw,h⟩:=aa h;refine jb (eN rfl gw) ?_;refine aq (nl ?_);exact jz ((),(List.set (List.set y6.1 (Int.toNat y6.2) E) (Int.toNat y) D,UO)) h [0]
    .refine eu (bv (bv (cH (bn ?_))));exact jz ((),y6.1) h [0]
  .refine ab (mq ?_);obtain⟨UN,Y,h⟩:=aa h;refine jb (bh rfl Y) ?_;refine aq (nl ?_);exact jz ((),(x4,UN)) h [0]
 .
  refine eu (bv (bv (cH (j6 ?_))));cases h;exact aR () [] 1 trivial rfl
def ko(k:Nat)(a0:Int):Option Int:=
 ((if 4294967296≤a0 then(some (ii .u64 a0 32,32)) else(some (a0,0))):Option (Int×Int)).bind λx1=>
 ((if 65536≤x1.1 then((ck (x1.2+16)).bind λx5=>
 some (ii .u64 x1.1 16,x5)) else(some (x1.1,x1.2))):Option (Int×Int)).bind λx3=>
 ((if 256≤x3.1 then((ck (x3.2+8)).bind λx8=>
 some (ii .u64 x3.1 8,x8)) else(some (x3.1,x3.2))):Option (Int×Int)).bind λx6=>
 (Bz K3 (IntKind.u8.wrap x6.1)).bind λx9=>
 (ck (x9.toNat:Int)).bind λe=>
 (ck (x6.2+e)).bind λc=>
 some c
theorem qi(k:Nat)(a0:Int)(r:Int)(h:ko k a0=some r):
 dG Tryz.prog 166 [.eq (.int .u64 a0)] [] (λ_:Unit=>(bL [I r],[])):=by
 unfold ko at h
 replace h:=bo h
 refine dG.of 25 Tryz.func166 rfl Tryz.ntmps166 rfl λS w0=>?_
 refine sr ?_
 refine cq ?_
 refine nt ?_
 refine aD (Z:=Unit) (α:=Int×Int) (λz2 x1=>[(0,.eq (.int .u64 x1.1)),(2,I x1.2)]) (λz2 x1=>[]) h (λK h=>?_) (λz2 x1 h=>?_)
 .
  refine sr (mq ?_);refine jb (jh rfl) ?_;refine nt (ci h (λh=>?_) (λh=>?_))
  .refine sr (mq ?_);refine cf rfl (uh rfl (by decide)) ⟨rfl,rfl,trivial⟩ ?_;refine aq (nt (ab ?_));refine cq (nl ?_);exact jz ((),(ii .u64 a0 32,32)) h []
  .refine aY (an ?_);exact jz ((),(a0,0)) h []
 .
  refine aD (Z:=Unit) (α:=Int×Int) (λz4 x3=>[(0,.eq (.int .u64 x3.1)),(2,I x3.2)]) (λz4 x3=>[]) h (λK h=>?_) (λz4 x3 h=>?_)
  .refine sr (mq ?_);refine jb (jh rfl) ?_;refine nt (ci h (λh=>?_) (λh=>?_))
   .refine sr (mq ?_);refine cf rfl (uh rfl (by decide)) ⟨rfl,rfl,trivial⟩ ?_;refine aq (nt (ab ?_));refine mq ?_;obtain⟨x5,n,h⟩:=aa h;refine jb (bh rfl n) ?_;refine aq (nl ?_);exact jz ((),(ii .u64 x1.1 16,x5)) h []
   .refine aY (an ?_);exact jz ((),(x1.1,x1.2)) h []
  .refine aD (Z:=Unit) (α:=Int×Int) (λz7 x6=>[(0,.eq (.int .u64 x6.1)),(2,I x6.2)]) (λz7 x6=>[]) h (λK h=>?_) (λz7 x6 h=>?_)
   .refine sr (mq ?_);refine jb (jh rfl) ?_;refine nt (ci h (λh=>?_) (λh=>?_))
    .refine sr (mq ?_);refine cf rfl (uh rfl (by decide)) ⟨rfl,rfl,trivial⟩ ?_;refine aq (nt (ab ?_));refine mq ?_;obtain⟨x8,l,h⟩:=aa h;refine jb (bh rfl l) ?_;refine aq (nl ?_);exact jz ((),(ii .u64 x3.1 8,x8)) h []
    .refine aY (an ?_);exact jz ((),(x3.1,x3.2)) h []
   .refine sr ?_;iterate 2 refine mq ?_
    refine ja (rX rfl R2 U5) ?_;obtain⟨x9,j,h⟩:=aa h;refine ja (zk rfl U9 j) ?_;obtain⟨u,e,h⟩:=aa h;refine ja (zl rfl U5 U3 e) ?_;obtain⟨s,c,h⟩:=aa h;refine jb (bh rfl c) ?_;refine aq (nt (ay ?_));cases h;exact ra
def pg(k:Nat)(a0:Int):Option Int:=
 (ko k a0).bind λr1=>
 some r1
theorem BQ(k:Nat)(a0:Int)(r:Int)(h:pg k a0=some r):
 dG Tryz.prog 155 [.eq (.int .u64 a0)] [] (λ_:Unit=>(bL [I r],[])):=by
 unfold pg at h
 replace h:=bo h
 refine dG.of 8 Tryz.func155 rfl Tryz.ntmps155 rfl λS w0=>?_
 refine sr ?_
 refine cq ?_
 refine nt ?_
 refine ak ?_
 refine I8 (λhb=>(by cases hb)) (λhb=>?_)
 refine sk ?_
 refine sr ?_
 refine mq ?_
 obtain⟨r1,c,h⟩:=aa h
 have e:=qi k a0 r1 c
 refine ja (aA [.tmp 6] rfl rfl Q4 rfl e) ?_
 refine aq ?_
 refine nt ?_
 refine ay ?_
 cases h
 exact ra
def cC(k:Nat)(a0:(List Int))(a1:Int)(a2:Int)(a3:Int):Nat->Unit->Option (List Int)
 |0,_=>none
 |n+1,y1=>
  (ck (a2 - a1)).bind λx3=>
  if x3≤12 then((bU k a0 a1 a2).bind λr4=>
  some r4) else(if a3=0 then(none) else(none))
def cX(k:Nat)(a0:(List Int))(a1:Int)(a2:Int)(a3:Int):Option (List Int):=
 cC k a0 a1 a2 a3 k ()
theorem lN(k:Nat)(a0:(List Int))(c:Value)(a1:Int)(a2:Int)(a3:Int)(r:(List Int))(h:cX k a0 a1 a2 a3=some r):
 dG Tryz.prog 154 [.eq c,I a1,I a2,I a3] [.sl c 3 Ti a0] (λ_:Unit=>(bL [],[.sl c 3 Ti r])):=by
 unfold cX at h
 replace h:=bo h
 refine dG.of 134 Tryz.func154 rfl Tryz.ntmps154 rfl λS w0=>?_
 refine sr ?_
 refine cq ?_
 refine nt ?_
 refine sr ?_
 refine cq ?_
 refine nt ?_
 refine aj ?_
 refine aF (λz2 y1=>[(0,.eq c),(1,I a1),(2,I a2),(3,I a3),(8,.eq (.bool true)),(9,.eq (.bool true))]) (λz2 y1=>[.sl c 3 Ti a0]) (cC k a0 a1 a2 a3) k () () (λ_=>rfl) h (SE.fin [0] ⟨rfl,rfl,rfl,rfl,rfl,rfl,trivial⟩ rfl) (λn z2 y1 h=>?_)
 unfold cC at h
 refine aj ?_
 refine sr ?_
 iterate 2 refine mq ?_
 obtain⟨x3,e,h⟩:=aa h
 refine jb (eN rfl e) ?_
 refine aq ?_
 refine nt ?_
 refine ak ?_
 refine sr ?_
 refine mq ?_
 refine jb (zi rfl) ?_
 refine nt ?_
 refine ci h (λh=>?_) (λh=>?_)
 .
  refine sr ?_;iterate 3 refine mq ?_
  obtain⟨r4,j,h⟩:=aa h;refine kc (aA [.tmp 24,.tmp 25,.tmp 26] rfl rfl Q6 rfl (jg k a0 c a1 a2 r4 j)) ?_;refine nt (rx (aZ (aU (aZ ?_))));cases h;exact aR () [] 1 trivial rfl
 .
  refine sk (ak (sr (mq ?_)));refine jb (fH rfl) ?_;refine nt (ci h (λh=>?_) (λh=>?_))
  .cases h
  .cases h
def fP(k:Nat)(a0:(List Int)):Option (List Int):=
 (pg k (IntKind.u64.wrap (a0.length:Int))).bind λr1=>
 (cX k a0 0 (a0.length:Int) r1).bind λr2=>
 some r2
theorem tf(k:Nat)(a0:(List Int))(c:Value)(r:(List Int))(h:fP k a0=some r):
 dG Tryz.prog 140 [.eq c] [.sl c 3 Ti a0] (λ_:Unit=>(bL [],[.sl c 3 Ti r])):=by
 unfold fP at h
 replace h:=bo h
 refine dG.of 11 Tryz.func140 rfl Tryz.ntmps140 rfl λS w0=>?_
 refine sr ?_
 refine mq ?_
 refine ka (iF rfl rfl iK) ?_
 refine aq ?_
 refine nt ?_
 refine ab ?_
 iterate 3 refine mq ?_
 refine ja (rX rfl U3 Ub) ?_
 obtain⟨r1,j,h⟩:=aa h
 have n:=BQ k (IntKind.u64.wrap (a0.length:Int)) r1 j
 refine ja (aA [.tmp 8] rfl rfl Q7 rfl n) ?_
 obtain⟨r2,e,h⟩:=aa h
 have l:=lN k a0 c 0 (a0.length:Int) r1 r2 e
 refine mi rfl rfl rfl (aA [.tmp 5,.const (.int .i64 (0)),.tmp 6,.tmp 9] rfl rfl Q8 rfl l) ⟨rfl,rfl,rfl,rfl,trivial⟩ ?_
 refine aC ?_
 refine j6 ?_
 cases h
 exact aR () [] 1 trivial rfl
def cG(k:Nat)(a1:Int)(x3:(List (List Int))):Nat->Int->Option (Except (Int ⊕ (List Int)) Unit)
 |0,_=>none
 |n+1,y4=>
  if y4 < (x3.length:Int) then((aJ x3 y4).bind λx6=>
  (gh k x6 a1).bind λr7=>
  if 0≤r7 then(((if 0 < r7 then((ck (r7 - 1)).bind λs=>
  (aJ x6 s).bind λe=>
  (cN (bP (length ([]:(List Int))+length [e]))).bind λ_=>
  some (([]:(List Int))++[e])) else(some ([]:(List Int)))):Option ((List Int))).bind λx8=>
  (((ck (r7+1)).bind λl=>
  if l < (x6.length:Int) then((ck (r7+1)).bind λj=>
  (aJ x6 j).bind λc=>
  (cN (bP (length x8+length [c]))).bind λ_=>
  some (x8++[c])) else(some x8)):Option ((List Int))).bind λr=>
  (fP k r).bind λu=>
  some (.error (Sum.inr u:(Int ⊕ (List Int))))) else((ck (y4+1)).bind λh=>
  cG k a1 x3 n h)) else(some (.ok ()))
def ec(k:Nat):Nat->ae->Int->Int->Option ((Int ⊕ (List Int)))
 |0,_,_,_=>none
 |m0+1,a0,a1,a2=>
  bE (α:=Unit) ((aJ a0.2.2.2.2.1 a2).bind λx3=>
  cG k a1 x3 k 0) (some) λ_=>
  ((if 0 < a2 then((ck (a2 - 1)).bind λh=>
  ((ec k m0) a0 a1 h).bind λc=>
  if J3 c=true then((ck (1+(Qf c))).bind λe=>
  some e) else(some 1)) else(some 1)):Option (Int)).bind λj=>
  some (Sum.inl j:(Int ⊕ (List Int)))
theorem ly{M:Md Tryz.prog}{bm:Nat}{c0 c1 c2 c3 c4 c5:Value}(hK:Kn M bm 0 [c0,c1,c2,c3,c4,c5])(k:Nat):
 ∀(n:Nat) (a0:ae) (a1:Int) (a2:Int) (r:(Int ⊕ (List Int))),ec k n a0 a1 a2=some r->bZ M 112 [.rep (.mo (Pv bm) [c0,c1,c2,c3,c4,c5] ao) a0,I a1,I a2] ([]) (λ_:Unit=>(bL [.rep (.pl 164 166 Tl) r],[])):=by
 intro n
 induction n with
 |zero=>intro a0 a1 a2 r h;cases h
 |succ m0 ih=>
  intro a0 a1 a2 r h;rw [ec] at h;replace h:=bo h;refine bZ.of 80 Tryz.func112 rfl Tryz.ntmps112 rfl λS w0=>?_;refine sr (cq (nt ?_));refine dx (Z:=Unit) (α:=Unit) (λz2 x1=>[(0,.rep (.mo (Pv bm) [c0,c1,c2,c3,c4,c5] ao) a0),(1,I a1),(2,I a2)]) (λz2 x1=>[]) (λe=>e=r) h (λe h=>Option.some.inj h) (λK hR h=>?_) (λz2 x1 h=>?_)
  .refine sr (mq ?_);refine ja (lr rfl) ?_;refine ja (gI rfl gY) ?_;refine ja (iw 1 false rfl eh rfl rfl) ?_;refine ja (jj (t:=(.slice (.slice Tl))) rfl kD (hK.sub 4 1 rfl (le_of_ble_eq_true rfl)) rfl rfl) ?_;refine mq ?_;obtain⟨x3,US,h⟩:=aa h;refine jb (bj (t:=(.slice Tl)) rfl vl te US) ?_;refine ja (au (t:=(.slice Tl)) rfl te rfl) ?_;refine ol qx ?_;refine eP rfl ?_;refine nt (aj (aF (λz5 y4=>[(0,.rep (.mo (Pv bm) [c0,c1,c2,c3,c4,c5] ao) a0),(1,I a1),(2,I a2),(21,.rep (.slice Tl) x3),(22,I (x3.length:Int)),(23,I y4)]) (λz5 y4=>[]) (cG k a1 x3) k () 0 (λ_=>rfl) h (SE.fin [] ⟨rfl,rfl,rfl,rfl,rfl,rfl,trivial⟩ rfl) (λn z5 y4 h=>?_)));unfold cG at h;refine sr (jb (bK rfl) ?_);refine nt (ak (ci h (λh=>?_) (λh=>?_)))
   .refine sk (ak (aj (sr ?_)));obtain⟨x6,UR,h⟩:=aa h;refine jb (bj (t:=Tl) rfl qx iQ UR) ?_;refine ja (au (t:=Tl) rfl iQ rfl) ?_;refine aq (nt (sr ?_));iterate 2 refine mq ?_
    obtain⟨r7,UT,h⟩:=aa h;refine jb (aA [.tmp 27,.tmp 28] rfl rfl QY rfl (my k x6 a1 r7 UT)) ?_;refine aq (nt (sr ?_));refine mq ?_;refine jb (jh rfl) ?_;refine nt (ci h (λh=>?_) (λh=>?_))
    .refine sr (cq (nt ?_));refine aD (Z:=Value) (α:=(List Int)) (λz9 x8=>[(8,.rep Tl x6),(9,I r7),(10,.eq z9)]) (λz9 x8=>[.sl z9 3 Ti x8]) h (λK h=>?_) (λz9 x8 h=>?_)
     .refine sr (mq ?_);refine jb (lT rfl) ?_;refine nt (ci h (λh=>?_) (λh=>?_))
      .refine ab ?_;iterate 3 refine mq ?_
       obtain⟨UW,U,h⟩:=aa h;refine jb (eN rfl U) ?_;obtain⟨x,Q,h⟩:=aa h;refine jb (bj (t:=Ti) rfl iK cM Q) ?_;refine ja (au (t:=Ti) rfl cM rfl) ?_;refine ja (bb (t:=Ti) [(.tmp 39,_)] [x] rfl rfl dT (.cons rfl .int .nil) rfl rfl) ?_;refine eB (SE.nil 3 Ti) ?_;obtain⟨UY,Y,h⟩:=aa h;refine er rfl rfl rfl (cI rfl rfl dT (am Y)) ⟨rfl,rfl,trivial⟩ λUO=>?_;refine aq (nl ?_);exact jz (UO,([]:(List Int))++[x]) h [0]
      .refine aY (an (bY (SE.nil 3 Ti) ?_));exact jz ((.slice none 0 0),([]:(List Int))) h [0]
     .refine aD (Z:=Value) (α:=(List Int)) (λc j=>[(10,.eq c)]) (λc j=>[.sl c 3 Ti j]) h (λK h=>?_) (λc j h=>?_)
      .refine sr (mq ?_);obtain⟨UV,O,h⟩:=aa h;refine jb (bh rfl O) ?_;refine mq ?_;refine ol iK ?_;refine jb (bK rfl) ?_;refine nt (ci h (λh=>?_) (λh=>?_))
       .refine ab ?_;iterate 3 refine mq ?_
        obtain⟨UU,J,h⟩:=aa h;refine jb (bh rfl J) ?_;obtain⟨u,F,h⟩:=aa h;refine jb (bj (t:=Ti) rfl iK cM F) ?_;refine ja (au (t:=Ti) rfl cM rfl) ?_;refine ja (bb (t:=Ti) [(.tmp 52,_)] [u] rfl rfl dT (.cons rfl .int .nil) rfl rfl) ?_;obtain⟨UX,X,h⟩:=aa h;refine er rfl rfl rfl (cI rfl rfl dT (am X)) ⟨rfl,rfl,trivial⟩ λUN=>?_;refine aq (nl ?_);exact jz (UN,x8++[u]) h [0]
       .refine aY (an ?_);exact jz (z9,x8) h [0]
      .refine sr (mq ?_);obtain⟨UQ,mc,h⟩:=aa h;refine ka (aA [.tmp 55] rfl rfl Rb rfl (tf k j c UQ mc)) ?_;refine nt (sr (mq ?_));refine eB (jt [10,55,57] ⟨rfl,rfl,rfl,trivial⟩) ?_;refine ja (dq [(0,.tmp 57,_)] rfl Qi MN O8 (hP ⟨rfl,trivial⟩) rfl) ?_;refine ja (Ko (t0:=164) (t:=Ti) rfl T9) ?_;refine aq (nt (ay (br (aZ (aU ?_)))));obtain rfl:=hR _ h;exact ra
    .refine aY (aN (tn (ab ?_)));obtain⟨zz,E,h⟩:=aa h;refine jb (bh rfl E) ?_;refine mq (nl ?_);exact jz ((),zz) h []
   .refine xa ?_;exact jz ((),()) h []
  .refine sr (cq (nt ?_));refine aD (Z:=Unit) (α:=Int) (λs l=>[(11,I l)]) (λs l=>[]) h (λK h=>?_) (λs l h=>?_)
   .refine sr (mq ?_);refine jb (lT rfl) ?_;refine nt (ci h (λh=>?_) (λh=>?_))
    .refine sr ?_;iterate 3 refine mq ?_
     obtain⟨qt,D,h⟩:=aa h;refine jb (eN rfl D) ?_;obtain⟨UP,gw,h⟩:=aa h;refine jc (aV [.tmp 64,.tmp 65,.tmp 67] rfl rfl Ik rfl (ih a0 a1 qt UP gw)) ?_;refine cf rfl (CM rfl Gk (by decide)) ⟨rfl,trivial⟩ ?_;refine mq ?_;refine xr ?_;refine xr ?_;refine aX rfl rfl rfl (bg rfl FH Ny) trivial λUZ=>?_;refine aM rfl rfl (aL rfl M4 trivial rfl rfl) ⟨rfl,rfl,trivial⟩ ?_;refine aq (nt (sr ?_));refine mq (nt ?_);refine cv h (λh=>?_) (λh=>?_)
     .refine ab (mq ?_);refine fl Dj ?_;refine lo cM ?_;obtain⟨mw,y,h⟩:=aa h;refine jb (bh rfl y) ?_;refine aq (nl ?_);exact jz ((),mw) h []
     .refine aY (an ?_);exact jz ((),1) h []
    .refine aY (an ?_);exact jz ((),1) h []
   .refine sr (mq ?_);refine ja (dq [(0,.tmp 77,_)] rfl Qj FH O9 (hP ⟨rfl,trivial⟩) rfl) ?_;refine ja (Kp (t1:=166) (t:=Ti) rfl Ua) ?_;refine aq (nt (ay ?_));cases h;exact ra
def iq(k:Nat)(a0:Nr):Option (List Int):=
 some ([]:(List Int))
theorem qd(k:Nat)(a0:Nr)(r:(List Int))(h:iq k a0=some r):
 dG Tryz.prog 190 [.rep P9 a0] [] (λ_:Unit=>(bL [.rep Tl r],[])):=by
 unfold iq at h
 replace h:=bo h
 refine dG.of 3 Tryz.func190 rfl Tryz.ntmps190 rfl λS w0=>?_
 refine sr ?_
 refine bx λb1=>?_
 refine cq ?_
 refine nt ?_
 refine sr ?_
 refine cq ?_
 refine nt ?_
 refine ay ?_
 refine bY (dV (t:=Tl) (x:=([]:(List Int))) 2 rfl .nil rfl rfl) ?_
 cases h
 exact ra
def ip(k:Nat)(a0:Nq):Option (List Int):=
 some a0
theorem pX(k:Nat)(a0:Nq)(r:(List Int))(h:ip k a0=some r):
 dG Tryz.prog 191 [.rep P8 a0] [] (λ_:Unit=>(bL [.rep Tl r],[])):=by
 unfold ip at h
 replace h:=bo h
 refine dG.of 5 Tryz.func191 rfl Tryz.ntmps191 rfl λS w0=>?_
 refine sr ?_
 refine bx λb1=>?_
 refine cq ?_
 refine nt ?_
 refine sr ?_
 refine fl Le ?_
 refine lo iQ ?_
 refine aq ?_
 refine nt ?_
 refine ay ?_
 cases h
 exact ra
def bW(k:Nat)(a0:ae)(a1:(List Int))(r5:(List Int)):Nat->Int->Option (Except Int Unit)
 |0,_=>none
 |n+1,y6=>
  if y6 < (r5.length:Int) then((aJ r5 y6).bind λx8=>
  (cN (0≤x8/\x8 < 5)).bind λ_=>
  (aJ a1 x8).bind λe=>
  if(kK 0 a0.2.1)≤e then(some (.error x8)) else((ck (y6+1)).bind λc=>
  bW k a0 a1 r5 n c)) else(some (.ok ()))
def dz(k:Nat)(a0:ae)(a1:(List Int))(a2:Int)(a3:Int):Option Int:=
 bE (α:=Unit) ((ec k k a0 a2 a3).bind λr4=>
 (Iw r4 (λn=>iq k n) (λl=>ip k l)).bind λr5=>
 bW k a0 a1 r5 k 0) (some) λ_=>
 some (-1:Int)
theorem jO{M:Md Tryz.prog}{bm:Nat}{c0 c1 c2 c3 c4 c5:Value}(hK:Kn M bm 0 [c0,c1,c2,c3,c4,c5])(k:Nat)(a0:ae)(a1:(List Int))(a2:Int)(a3:Int)(r:Int)(h:dz k a0 a1 a2 a3=some r):
    bZ M 113 [.rep (.mo (Pv bm) [c0,c1,c2,c3,c4,c5] ao) a0,.rep Tr a1,.eq (.int .i64 a2),.eq (.int .i64 a3)] [] (λ_:Unit=>(bL [.eq (.int .i64 r)],[])):=by
  unfold dz at h
  replace h:=bo h
  refine bZ.of 33 Tryz.func113 rfl Tryz.ntmps113 rfl λS w0=>?_
  refine ak ?_
  refine ab ?_
  refine aX rfl rfl rfl (wn rfl rfl) ⟨rfl,trivial⟩ λb1=>?_
  refine DY rfl ?_
  refine aC ?_
  refine an ?_
  show JC _ _ _ _ _
  refine dx (Z:=Unit) (α:=Unit) (λz3 x2=>[]) (λz3 x2=>[]) (λe=>e=r) h (λe h=>Option.some.inj h) (λK hR h=>?_) (λz3 x2 h=>?_)
  .
    refine ak ?_
    refine ab ?_
    refine g7 rfl rfl ?_
    refine g7 rfl rfl ?_
    refine g7 rfl rfl ?_
    obtain⟨r4,D,h⟩:=aa h
    have E:=ly hK k k a0 a2 a3 r4 D
    refine cf rfl (aV [.tmp 11,.tmp 12,.tmp 13] rfl rfl Ik rfl E) ⟨rfl,rfl,rfl,trivial⟩ ?_
    obtain⟨r5,c,h⟩:=aa h
    refine cf rfl (Kq (r:=.rep Tl r5) rfl rfl vC vB (λn hd=>.agI (qd k n r5 (by rw [hd] at c;exact c))) (λl hd=>.agS (pX k l r5 (by rw [hd] at c;exact c)))) ⟨rfl,trivial⟩ ?_
    refine cf rfl (pC rfl rfl iK) ⟨rfl,trivial⟩ ?_
    refine eP rfl ?_
    refine aC ?_
    refine an ?_
    show JC _ _ _ _ _
    refine aj ?_
    refine aF (λz7 y6=>[(0,.rep (.mo (Pv bm) [c0,c1,c2,c3,c4,c5] ao) a0),(5,.eq (Pv b1)),(15,.rep Tl r5),(16,.eq (.int .i64 (r5.length:Int))),(17,.eq (.int .i64 y6))]) (λz7 y6=>[.obj b1 80 (.rep Tr a1)]) (bW k a0 a1 r5) k () 0 (λ_=>rfl) h (SE.fin [0] ⟨rfl,rfl,rfl,rfl,rfl,trivial⟩ rfl) (λn z7 y6 h=>?_)
    unfold bW at h
    refine ak ?_
    refine ab ?_
    refine cf rfl (bK rfl) ⟨rfl,rfl,trivial⟩ ?_
    refine aC ?_
    refine an ?_
    show JC _ _ _ _ _
    refine ak ?_
    refine jf rfl (λhb=>?_) (λhb=>?_)
    . replace h:=eM (vJ hb) h
      refine aY ?_
      refine an ?_
      show JC _ _ _ _ _
      refine ak ?_
      refine aj ?_
      refine ak ?_
      refine ab ?_
      obtain⟨x8,y,h⟩:=aa h
      refine cf rfl (bj (t:=Ti) rfl iK cM y) ⟨rfl,rfl,trivial⟩ ?_
      refine cf rfl (au (t:=Ti) rfl cM rfl) ⟨rfl,trivial⟩ ?_
      refine vb rfl rfl ?_
      refine aC ?_
      refine an ?_
      show JC _ _ _ _ _
      refine ak ?_
      refine c9 ?_
      refine f8 rfl rfl rfl (bJ rfl) ⟨rfl,trivial⟩ ?_
      obtain⟨u9,u,h⟩:=aa h
      refine f8 rfl rfl rfl (dU rfl AM cM (am u).1 (am u).2) ⟨rfl,rfl,trivial⟩ ?_
      obtain⟨F,s,h⟩:=aa h
      refine yx 0 rfl rfl rfl rfl (mU (t:=Ti) (off:=0) (i:=x8) (N:=5) rfl cM (λ_=>rfl) rfl rfl rfl rfl s) ⟨rfl,trivial⟩ ?_
      refine f8 rfl rfl rfl (bJ rfl) ⟨rfl,trivial⟩ ?_
      refine f8 rfl rfl rfl (lr rfl) ⟨rfl,trivial⟩ ?_
      refine f8 rfl rfl rfl (gI rfl gY) ⟨rfl,trivial⟩ ?_
      refine f8 rfl rfl rfl (iw 1 false rfl BG rfl rfl) ⟨rfl,trivial⟩ ?_
      refine f8 rfl rfl rfl (jj (t:=Ti) rfl cM (hK.sub 1 1 rfl (le_of_ble_eq_true rfl)) rfl rfl) ⟨rfl,trivial⟩ ?_
      refine f8 rfl rfl rfl (CL rfl rfl) ⟨rfl,rfl,trivial⟩ ?_
      refine Cb (by kernel_rfl) eO ?_
      refine cf rfl (jh rfl) ⟨rfl,rfl,trivial⟩ ?_
      refine aC ?_
      refine an ?_
      show JC _ _ _ _ _
      refine jf rfl (λhb=>?_) (λhb=>?_)
      . replace h:=eM (vJ hb) h
        refine ak ?_
        refine ab ?_
        refine g7 rfl rfl ?_
        refine vb rfl rfl ?_
        refine aC ?_
        refine an ?_
        show JC _ _ _ _ _
        refine ay ?_
        refine aZ ?_
        refine aU ?_
        refine aU ?_
        refine aZ ?_
        refine aU ?_
        obtain rfl:=hR _ h
        exact aR () [_] 0 ⟨rfl,trivial⟩ rfl
      . replace h:=cV (vK hb) h
        refine aY ?_
        refine aN ?_
        refine an ?_
        show JC _ _ _ _ _
        refine ab ?_
        obtain⟨x,j,h⟩:=aa h
        refine cf rfl (bh rfl j) ⟨rfl,rfl,trivial⟩ ?_
        refine g7 rfl rfl ?_
        refine aC ?_
        refine an ?_
        exact vc ((),x) h (SE.fin [0] ⟨rfl,rfl,rfl,rfl,rfl,trivial⟩ rfl)
    . replace h:=cV (vK hb) h
      refine eu ?_
      refine bv ?_
      refine bv ?_
      refine cH ?_
      refine an ?_
      exact vc ((),()) h (SE.fin [] trivial rfl)
  .
    refine ak ?_
    refine ab ?_
    refine DY rfl ?_
    refine aC ?_
    refine an ?_
    show JC _ _ _ _ _
    refine ay ?_
    obtain rfl:=Option.some.inj h
    exact aR () [_] 0 ⟨rfl,trivial⟩ rfl
def cx(k:Nat)(a0:ae)(a1:(List Int))(a2:Int):Nat->((List Int)×Int)->Option (List Int)
 |0,_=>none
 |n+1,y6=>
  if y6.2 < a0.1 then((((ec k k a0 y6.2 a2).bind λc=>
  if J3 c=true then(if a0.2.2.2.1≤(Qf c) then((cN (0≤y6.2/\y6.2 < 5)).bind λ_=>
  some (List.set y6.1 (Int.toNat y6.2) (-1:Int))) else(some y6.1)) else(if¬(J3 c=true) then((cN (0≤y6.2/\y6.2 < 5)).bind λ_=>
  (aJ a1 y6.2).bind λl=>
  if 0≤l then((cN (0≤y6.2/\y6.2 < 5)).bind λ_=>
  (aJ a1 y6.2).bind λj=>
  (ck (j+1)).bind λh=>
  (cN (0≤y6.2/\y6.2 < 5)).bind λ_=>
  some (List.set y6.1 (Int.toNat y6.2) h)) else((dz k a0 a1 y6.2 a2).bind λr=>
  if 0≤r then((cN (0≤y6.2/\y6.2 < 5)).bind λ_=>
  some (List.set y6.1 (Int.toNat y6.2) 0)) else(some y6.1))) else(some y6.1))):Option ((List Int))).bind λx8=>
  (ck (y6.2+1)).bind λe=>
  cx k a0 a1 a2 n (x8,e)) else(some y6.1)
def gK(k:Nat)(a0:ae)(a1:(List Int))(a2:Int):Option (List Int):=
 ((cx k a0 a1 a2 k (a1,0)):Option ((List Int))).bind λx4=>
 some x4
theorem qT{M:Md Tryz.prog}{bm:Nat}{c0 c1 c2 c3 c4 c5:Value}(hK:Kn M bm 0 [c0,c1,c2,c3,c4,c5])(k:Nat)(a0:ae)(a1:(List Int))(a2:Int)(r:(List Int))(h:gK k a0 a1 a2=some r):
 bZ M 79 [.rep (.mo (Pv bm) [c0,c1,c2,c3,c4,c5] ao) a0,.rep Tr a1,I a2] [] (λ_:Unit=>(bL [.rep Tr r],[])):=by
 unfold gK at h
 replace h:=bo h
 refine bZ.of 60 Tryz.func79 rfl Tryz.ntmps79 rfl λS w0=>?_
 refine sr ?_
 refine bx λb1=>?_
 refine aX rfl rfl rfl (bg rfl Jl LN) trivial λb2=>?_
 refine nt ?_
 refine sr ?_
 refine fr 1 ?_
 refine lo iP ?_
 refine aX rfl rfl rfl (bg rfl Jl LN) trivial λb3=>?_
 refine aM rfl rfl (aL rfl iP rfl rfl rfl) ⟨rfl,rfl,trivial⟩ ?_
 refine nt ?_
 refine aD (Z:=Unit) (α:=(List Int)) (λz5 x4=>[(6,Pt b2),(7,Pt b3)]) (λz5 x4=>[.obj b2 80 (.rep Tr [0,0,0,0,0]),.obj b3 80 (.rep Tr x4)]) h (λK h=>?_) (λz5 x4 h=>?_)
 .
  refine sr (mq ?_);refine ja (lr rfl) ?_;refine ja (gI rfl gY) ?_;refine ja (iw 1 false rfl gp rfl rfl) ?_;refine ja (jj (t:=Ti) rfl cM (hK.sub 0 1 rfl (le_of_ble_eq_true rfl)) rfl rfl) ?_;refine eP rfl ?_;refine nt (aj (aF (λz7 y6=>[(0,.rep (.mo (Pv bm) [c0,c1,c2,c3,c4,c5] ao) a0),(2,I a2),(4,Pt b1),(6,Pt b2),(7,Pt b3),(16,I a0.1),(17,I y6.2)]) (λz7 y6=>[.obj b1 80 (.rep Tr a1),.obj b2 80 (.rep Tr [0,0,0,0,0]),.obj b3 80 (.rep Tr y6.1)]) (cx k a0 a1 a2) k () (a1,0) (λ_=>rfl) h (SE.fin [1,2,0] ⟨rfl,rfl,rfl,rfl,rfl,rfl,rfl,trivial⟩ rfl) (λn z7 y6 h=>?_)));unfold cx at h;refine sr (jb (bK rfl) ?_);refine nt (ak (ci h (λh=>?_) (λh=>?_)))
  .refine sk (aD (Z:=Unit) (α:=(List Int)) (λz9 x8=>[(0,.rep (.mo (Pv bm) [c0,c1,c2,c3,c4,c5] ao) a0),(2,I a2),(4,Pt b1),(6,Pt b2),(7,Pt b3),(16,I a0.1),(17,I y6.2)]) (λz9 x8=>[.obj b1 80 (.rep Tr a1),.obj b2 80 (.rep Tr [0,0,0,0,0]),.obj b3 80 (.rep Tr x8)]) h (λK h=>?_) (λz9 x8 h=>?_))
   .refine aj (sr (mq ?_));refine aq (nt (sr ?_));iterate 3 refine mq ?_
    obtain⟨U,F,h⟩:=aa h;refine jc (aV [.tmp 20,.tmp 21,.tmp 22] rfl rfl Ik rfl (ly hK k k a0 y6.2 a2 U F)) ?_;refine nt (aj (sr (cf rfl (CM rfl Gk (by decide)) ⟨rfl,trivial⟩ ?_)));refine xr ?_;refine xr ?_;refine nt (cv h (λh=>?_) (λh=>?_))
    .refine sr (aX rfl rfl rfl (bg rfl FH Ny) trivial λUN=>?_);refine aM rfl rfl (aL rfl M4 trivial rfl rfl) ⟨rfl,rfl,trivial⟩ ?_;refine nt (ak (c9 ?_));refine da (aH rfl Dj) ?_;refine ea 0 (av rfl cM pr rfl) ?_;refine dm ?_;refine da (lr rfl) ?_;refine da (gI rfl gY) ?_;refine da (iw 1 false rfl Ic rfl rfl) ?_;refine da (jj (t:=Ti) rfl cM (hK.sub 3 1 rfl (le_of_ble_eq_true rfl)) rfl rfl) ?_;refine df eO ?_;refine jb (jh rfl) ?_;refine nt (ci h (λh=>?_) (λh=>?_))
     .refine ab (mq ?_);obtain⟨qt,j,h⟩:=aa h;refine jb (dU rfl AM cM (am j).1 (am j).2) ?_;refine fr 3 ?_;refine aM rfl rfl (gG (t:=Ti) (off:=0) (i:=y6.2) (N:=5) rfl cM .int rfl rfl rfl rfl (am j).1 (am j).2 rfl) ⟨rfl,rfl,trivial⟩ ?_;refine aC (aN (bn ?_));exact jz ((),List.set y6.1 (Int.toNat y6.2) (-1:Int)) h [2,3,0]
     .refine aY (aN (bn ?_));exact jz ((),y6.1) h [1,2,3]
    .refine sr (cf rfl (Ku rfl NV (by decide)) ⟨rfl,trivial⟩ ?_);refine xr ?_;refine xr ?_;refine nt (cw h (λh=>?_) (λh=>?_))
     .refine sr (aX rfl rfl rfl (bg rfl MN Ru) trivial λzz=>?_);refine aM rfl rfl (aL rfl Qa trivial rfl rfl) ⟨rfl,rfl,trivial⟩ ?_;refine nt (sr (mq ?_));obtain⟨mw,s,h⟩:=aa h;refine jb (dU rfl AM cM (am s).1 (am s).2) ?_;obtain⟨Y,D,h⟩:=aa h;refine fr 1 ?_;refine ka (mU (t:=Ti) (off:=0) (i:=y6.2) (N:=5) rfl cM (λ_=>rfl) rfl rfl rfl rfl D) ?_;refine jb (jh rfl) ?_;refine nt (ci h (λh=>?_) (λh=>?_))
      .refine ab ?_;iterate 2 refine mq ?_
       obtain⟨u16,l,h⟩:=aa h;refine jb (dU rfl AM cM (am l).1 (am l).2) ?_;obtain⟨X,y,h⟩:=aa h;refine ka (mU (t:=Ti) (off:=0) (i:=y6.2) (N:=5) rfl cM (λ_=>rfl) rfl rfl rfl rfl y) ?_;obtain⟨O,x,h⟩:=aa h;refine jb (bh rfl x) ?_;obtain⟨mc,e,h⟩:=aa h;refine jb (dU rfl AM cM (am e).1 (am e).2) ?_;refine fr 3 ?_;refine aM rfl rfl (gG (t:=Ti) (off:=0) (i:=y6.2) (N:=5) rfl cM .int rfl rfl rfl rfl (am e).1 (am e).2 rfl) ⟨rfl,rfl,trivial⟩ ?_;refine aC (aN (bn ?_));exact jz ((),List.set y6.1 (Int.toNat y6.2) O) h [1,3,0]
      .refine sr (mq ?_);refine lo iP ?_;iterate 2 refine mq ?_
       obtain⟨Q,E,h⟩:=aa h;refine cf rfl (aV [.tmp 50,.tmp 51,.tmp 52,.tmp 53] rfl rfl Nk rfl (jO hK k a0 a1 y6.2 a2 Q E)) ⟨rfl,rfl,rfl,rfl,trivial⟩ ?_;refine jb (jh rfl) ?_;refine nt (ci h (λh=>?_) (λh=>?_))
       .refine ab (mq ?_);obtain⟨gw,c,h⟩:=aa h;refine jb (dU rfl AM cM (am c).1 (am c).2) ?_;refine fr 3 ?_;refine aM rfl rfl (gG (t:=Ti) (off:=0) (i:=y6.2) (N:=5) rfl cM .int rfl rfl rfl rfl (am c).1 (am c).2 rfl) ⟨rfl,rfl,trivial⟩ ?_;refine aC (aN (bn ?_));exact jz ((),List.set y6.1 (Int.toNat y6.2) 0) h [1,3,0]
       .refine aY (aN (bn ?_));exact jz ((),y6.1) h [0,2,3]
     .refine aY (aN (bn ?_));exact jz ((),y6.1) h [0,1,2]
   .refine ab ?_;obtain⟨J,u,h⟩:=aa h;refine jb (bh rfl u) ?_;refine mq (nl ?_);exact jz ((),(x8,J)) h [0,1,2]
  .refine xa ?_;exact jz ((),y6.1) h [1,2]
 .
  refine sr (fr 1 ?_);refine lo iP ?_;refine fr 1 ?_;refine aM rfl rfl (aL rfl iP rfl rfl rfl) ⟨rfl,rfl,trivial⟩ ?_;refine nt (ay ?_);obtain rfl:=Option.some.inj h;exact aR () [.rep Tr x4] 0 ⟨⟨_,_,_,_,_,rfl,(.head _),iP,(qR),rfl⟩,trivial⟩ rfl
def du{σ:Type}(k:Nat)(a0:Int)(a3:Int)(self:Int->Int->σ->Option (Bool×σ)):Nat->(Int×σ)->Option (Except (Bool×σ) (σ))
 |0,_=>none
 |n+1,y5=>
  if y5.1 < a3 then((fV k a0 y5.1).bind λr7=>
  (ck (y5.1+1)).bind λx8=>
  (self r7 x8 y5.2).bind λr9=>
  if¬(r9.1=true) then(some (.error (false,r9.2))) else((ck (y5.1+1)).bind λc=>
  du k a0 a3 self n (c,r9.2))) else(some (.ok y5.2))
def dy{σ:Type}(k:Nat)(Y:σ->Int->Option (σ×Bool))(a3:Int):Nat->Int->Int->σ->Option (Bool×σ)
 |0,_,_,_=>none
 |m0+1,a0,a1,s0=>
  (Y s0 a0).bind λr1=>
  if¬(r1.2=true) then(some (false,r1.1)) else(bE (α:=σ) (du k a0 a3 (dy k Y a3 m0) k (a1,r1.1)) (some) λx3=>
  some (true,x3))
theorem sj{M:Md Tryz.prog}{σ Z:Type}(E:Z->σ->List D)(l:Nat)(Y:σ->Int->Option (σ×Bool))(k:Nat)(u:Nat)(a3:Int)(j:Nat)(c:Nat)(hY:∀z s p r,Y s p=some r->YT M l [.eq (.int .u8 p)] (E z s) (λz':Z=>(.eq (.bool r.2),E z' r.1))):
 ∀(n:Nat) (a0:Int) (a1:Int) (z0:Z) (s0:σ) (r:Bool×σ),dy k Y a3 n a0 a1 s0=some r->bZ M 107 [.eq (.int .u8 a0),I a1,Pt u,Pt j,Pt c] ([.obj u 137 (.eq (.func (.yield l) #[] #[])),.obj j 3 (I a3),.obj c 136 (.eq (.func (.func 107) #[] #[(Pv u),(Pv j),(Pv c)]))]++E z0 s0) (λz:Z=>(bL [.eq (.bool r.1)],[.obj u 137 (.eq (.func (.yield l) #[] #[])),.obj j 3 (I a3),.obj c 136 (.eq (.func (.func 107) #[] #[(Pv u),(Pv j),(Pv c)]))]++E z r.2)):=by
 intro n
 induction n with
 |zero=>intro a0 a1 z0 s0 r h;cases h
 |succ m0 ih=>
  intro a0 a1 z0 s0 r h;rw [dy] at h;replace h:=bo h;refine bZ.of 27 Tryz.func107 rfl Tryz.ntmps107 rfl λS w0=>?_;refine sr (cq (nt (ak (sr ?_))));refine lo Qb ?_;refine mq ?_;obtain⟨r1,U,h⟩:=aa h;refine fr 2 ?_;refine fr 2 ?_;refine fr 2 ?_;refine IZ [.obj u 137 (.eq (.func (.yield l) #[] #[])),.obj j 3 (I a3),.obj c 136 (.eq (.func (.func 107) #[] #[(Pv u),(Pv j),(Pv c)]))] rfl rfl rfl (J7 [.tmp 10] rfl rfl rfl (hY z0 s0 a0 r1 U)) ⟨rfl,rfl,trivial⟩ λz2=>?_;refine ja (iE rfl) ?_;refine nt (cw h (λh=>?_) (λh=>?_))
  .refine sr (cq (nt (rx ?_)));cases h;exact tN z2 [_] ⟨rfl,trivial⟩ rfl
  .refine sk (dx (Z:=Z) (α:=σ) (λz4 x3=>[]) (λz4 x3=>[.obj u 137 (.eq (.func (.yield l) #[] #[])),.obj j 3 (I a3),.obj c 136 (.eq (.func (.func 107) #[] #[(Pv u),(Pv j),(Pv c)]))]++E z4 x3) (λe=>e=r) h (λe h=>Option.some.inj h) (λK hR h=>?_) (λz4 x3 h=>?_))
   .refine sr (mq ?_);refine aq (nt (aj ?_));refine aF (Z:=Z) (α:=Int×σ) (λz6 y5=>[(0,.eq (.int .u8 a0)),(3,Pt j),(4,Pt c),(8,I y5.1)]) (λz6 y5=>[.obj j 3 (I a3),.obj c 136 (.eq (.func (.func 107) #[] #[(Pv u),(Pv j),(Pv c)])),.obj u 137 (.eq (.func (.yield l) #[] #[]))]++E z6 y5.2) (du k a0 a3 (dy k Y a3 m0)) k z2 (a1,r1.1) (λ_=>rfl) h (kP [.obj u 137 (.eq (.func (.yield l) #[] #[])),.obj j 3 (I a3),.obj c 136 (.eq (.func (.func 107) #[] #[(Pv u),(Pv j),(Pv c)]))] (E z2 r1.1) [1,2,0] ⟨rfl,rfl,rfl,rfl,trivial⟩ rfl) (λn z6 y5 h=>?_);unfold du at h;refine ak (sr (mq ?_));refine lo cM ?_;refine jb (bK rfl) ?_;refine nt (ci h (λh=>?_) (λh=>?_))
    .refine sk (ak (aj (ak (c9 ?_))));refine ea 1 (av rfl Gt pr rfl) ?_;refine dm ?_;refine dm ?_;obtain⟨r7,Q,h⟩:=aa h;refine db (aA [.tmp 20,.tmp 21] rfl rfl OT rfl (kl k a0 y5.1 r7 Q)) ?_;refine dm ?_;obtain⟨x8,J,h⟩:=aa h;refine db (bh rfl J) ?_;refine df eO ?_;obtain⟨r9,O,h⟩:=aa h;refine fr 1 ?_;refine fr 1 ?_;refine fr 2 ?_;refine Av rfl rfl rfl (qM (fs:=[]) (cs:=[(Pv u),(Pv j),(Pv c)]) (ags:=[.eq (.int .u8 r7),I x8]) [.tmp 22,.tmp 24] rfl rfl Nn rfl (ih r7 x8 z6 y5.2 r9 O)) ⟨rfl,rfl,rfl,trivial⟩ λx=>?_;refine ja (iE rfl) ?_;refine nt (cw h (λh=>?_) (λh=>?_))
     .refine sr (cq (nt (ay (br (aZ (aU ?_))))));obtain rfl:=hR _ h;exact tN x [_] ⟨rfl,trivial⟩ rfl
     .refine aY (aN (tn (ab (mq ?_))));obtain⟨F,y,h⟩:=aa h;refine jb (bh rfl y) ?_;refine aq (nl ?_);exact vc (x,(F,r9.2)) h (kP [.obj u 137 (.eq (.func (.yield l) #[] #[])),.obj j 3 (I a3),.obj c 136 (.eq (.func (.func 107) #[] #[(Pv u),(Pv j),(Pv c)]))] (E x r9.2) [1,2,0] ⟨rfl,rfl,rfl,rfl,trivial⟩ rfl)
    .refine xa ?_;exact vc (z6,y5.2) h (kP [.obj j 3 (I a3),.obj c 136 (.eq (.func (.func 107) #[] #[(Pv u),(Pv j),(Pv c)])),.obj u 137 (.eq (.func (.yield l) #[] #[]))] (E z6 y5.2) [2,0,1] trivial rfl)
   .refine sr (cq (nt (ay ?_)));cases h;exact tN z4 [_] ⟨rfl,trivial⟩ rfl
def jP{σ:Type}(k:Nat)(Y:σ->Int->Option (σ×Bool))(a1:Int)(s0:σ):Option (σ):=
 (dy k Y a1 k 0 0 s0).bind λr3=>
 some r3.2
theorem oh{M:Md Tryz.prog}{σ Z:Type}(E:Z->σ->List D)(l:Nat)(Y:σ->Int->Option (σ×Bool))(k:Nat)(a1:Int)(c:Nat)(hY:∀z s p r,Y s p=some r->YT M l [.eq (.int .u8 p)] (E z s) (λz':Z=>(.eq (.bool r.2),E z' r.1))):
 ∀(z0:Z) (s0:σ) (r:σ),jP k Y a1 s0=some r->bZ M 106 [.eq (.func (.yield l) #[] #[]),Pt c] ([.obj c 3 (I a1)]++E z0 s0) (λz:Z=>(bL [],[.obj c 3 (I a1)]++E z r)):=by
 intro z0 s0 r h
 unfold jP at h
 replace h:=bo h
 refine bZ.of 7 Tryz.func106 rfl Tryz.ntmps106 rfl λS w0=>?_
 refine sr ?_
 refine bx λb1=>?_
 refine nt ?_
 refine sr ?_
 refine aX rfl rfl rfl (bg rfl P0 Rw) trivial λb2=>?_
 refine nt ?_
 refine sr ?_
 refine jc (rV [] [.tmp 2,.tmp 1,.tmp 3] [] [(Pv b1),(Pv c),(Pv b2)] rfl rfl rfl) ?_
 refine aM rfl rfl (aL rfl Gt rfl rfl rfl) ⟨rfl,rfl,trivial⟩ ?_
 refine nt ?_
 refine ab ?_
 refine lo Gt ?_
 obtain⟨r3,e,h⟩:=aa h
 have j:=sj E l Y k b1 a1 c b2 hY k 0 0 z0 s0 r3 e
 refine fr 2 ?_
 refine fr 2 ?_
 refine Av rfl rfl rfl (qM (fs:=[]) (cs:=[(Pv b1),(Pv c),(Pv b2)]) (ags:=[.eq (.int .u8 0),I 0]) [.const (.int .u8 (0)),.const (.int .i64 (0))] rfl rfl Nn rfl j) ⟨rfl,rfl,rfl,trivial⟩ λz4=>?_
 refine aC ?_
 refine j6 ?_
 refine bY (kP (Γ':=[]) [.obj b1 137 (.eq (.func (.yield l) #[] #[])),.obj c 3 (I a1),.obj b2 136 (.eq (.func (.func 107) #[] #[(Pv b1),(Pv c),(Pv b2)]))] (E z4 r3.2) [1] trivial rfl) ?_
 cases h
 exact tN z4 [] trivial rfl
theorem qV(a0:Int):dG Tryz.prog 73 [I a0] [] (λz:Nat=>(bL [.eq (.func (.func 106) #[] #[(Pv z)])],[.obj z 3 (I a0)])):=by
 refine dG.of 4 Tryz.func73 rfl Tryz.ntmps73 rfl λS w0=>?_;refine sr (bx λz=>?_);refine cq (nt (sr ?_));refine ja (rV [] [.tmp 1] [] [(Pv z)] rfl rfl rfl) ?_;refine aq (nt (ay ?_));exact aR z [_] 1 ⟨rfl,trivial⟩ rfl
def dD(k:Nat)(a0:Int):Nat->((List Int)×Int)->Option (List Int)
 |0,_=>none
 |n+1,y3=>
  if y3.2 < 5 then((((eX k a0 y3.2).bind λr7=>
  if r7=true then((cN (bP (length y3.1+length [y3.2]))).bind λ_=>
  some (y3.1++[y3.2])) else(some y3.1)):Option ((List Int))).bind λx5=>
  (ck (y3.2+1)).bind λc=>
  dD k a0 n (x5,c)) else(some y3.1)
def fW(k:Nat)(a0:Int):Option (List Int):=
 ((dD k a0 k (([]:(List Int)),0)):Option ((List Int))).bind λx1=>
 some x1
theorem km(k:Nat)(a0:Int)(r:(List Int))(h:fW k a0=some r):
 dG Tryz.prog 39 [.eq (.int .u8 a0)] [] (λ_:Unit=>(bL [.rep Tl r],[])):=by
 unfold fW at h
 replace h:=bo h
 refine dG.of 17 Tryz.func39 rfl Tryz.ntmps39 rfl λS w0=>?_
 refine sr ?_
 refine cq ?_
 refine nt ?_
 refine sr ?_
 refine cq ?_
 refine nt ?_
 refine aD (Z:=Value) (α:=(List Int)) (λz2 x1=>[(3,.eq z2)]) (λz2 x1=>[.sl z2 3 Ti x1]) h (λK h=>?_) (λz2 x1 h=>?_)
 .
  refine sr (eP rfl ?_);refine nt (aj (iL (SE.nil 3 Ti) ?_));refine aF (λz4 y3=>[(0,.eq (.int .u8 a0)),(3,.eq z4),(5,I y3.2)]) (λz4 y3=>[.sl z4 3 Ti y3.1]) (dD k a0) k (.slice none 0 0) (([]:(List Int)),0) (λ_=>rfl) h (SE.fin [0] ⟨rfl,rfl,rfl,trivial⟩ rfl) (λn z4 y3 h=>?_);unfold dD at h;refine sr (jb (bK rfl) ?_);refine nt (ak (ci h (λh=>?_) (λh=>?_)))
  .refine sk (aD (Z:=Value) (α:=(List Int)) (λz6 x5=>[(0,.eq (.int .u8 a0)),(3,.eq z6),(5,I y3.2)]) (λz6 x5=>[.sl z6 3 Ti x5]) h (λK h=>?_) (λz6 x5 h=>?_))
   .refine aj (sr (mq ?_));refine aq (nt (sr ?_));iterate 2 refine mq ?_
    obtain⟨r7,l,h⟩:=aa h;refine jb (aA [.tmp 8,.tmp 9] rfl rfl Ij rfl (gJ k a0 y3.2 r7 l)) ?_;refine nt (cv h (λh=>?_) (λh=>?_))
    .refine ab ?_;iterate 2 refine mq ?_
     refine ja (bb (t:=Ti) [(.tmp 12,_)] [y3.2] rfl rfl dT (.cons rfl .int .nil) rfl rfl) ?_;obtain⟨u8,j,h⟩:=aa h;refine er rfl rfl rfl (cI rfl rfl dT (am j)) ⟨rfl,rfl,trivial⟩ λv9=>?_;refine aq (aC (bn ?_));exact jz (v9,y3.1++[y3.2]) h [0]
    .refine aY (bn ?_);exact jz (z4,y3.1) h [0]
   .refine ab ?_;obtain⟨e,c,h⟩:=aa h;refine jb (bh rfl c) ?_;refine mq (nl ?_);exact jz (z6,(x5,e)) h [0]
  .refine xa ?_;exact jz (z4,y3.1) h [0]
 .
  refine sr (mq ?_);refine aq (nt (ay ?_));refine bY (jt [2,3,16] ⟨rfl,rfl,rfl,trivial⟩) ?_;cases h;exact ra
def ia(k:Nat)(a0:List Int):Option (List Int):=
 (cN (bP (length a0))).bind λ_=>some a0
theorem rO(k:Nat)(a0:List Int)(r:List Int)(h:ia k a0=some r):
 dG Tryz.prog 41 [.rep Tl a0] [] (λz:Value=>(bL [.eq z],[.sl z 3 Ti r])):=by
 unfold ia at h
 replace h:=bo h
 refine dG.of 8 Tryz.func41 rfl Tryz.ntmps41 rfl λS w0=>?_
 obtain⟨u1,c,h⟩:=aa h
 cases h
 refine sr ?_
 refine cq ?_
 refine nt ?_
 refine ak ?_
 refine sr ?_
 refine mq ?_
 refine aI (Δ:=[]) (F:=_) (λ_ _ _=>ag rfl _) rfl rfl (Ks rfl iK) ⟨rfl,rfl,trivial⟩ λb=>?_
 refine nt ?_
 refine jf rfl (λhb=>?_) (λhb=>?_)
 .
  refine sr (cq (nt (rx ?_)));obtain rfl:=b.2 hb;refine bY (SE.nil 3 Ti) ?_;exact aR (.slice none 0 0) [.eq (.slice none 0 0)] 1 ⟨rfl,trivial⟩ rfl
 .
  refine sk (sr (aX rfl rfl rfl (mV (t:=Ti) [] [] rfl rfl dT .nil rfl rfl) trivial λv1=>?_));refine mq ?_;refine er rfl rfl rfl (cI rfl rfl dT (by simpa using am c)) ⟨rfl,rfl,trivial⟩ λv2=>?_;refine aq (nt (ay ?_));exact aR v2 [.eq v2] 1 ⟨rfl,trivial⟩ rfl
def fh(k:Nat)(a0:ae)(a1:(List (List Int))):Nat->Int->Option (Except Bool Unit)
 |0,_=>none
 |n+1,y5=>
  if y5 < (a1.length:Int) then((aJ a1 y5).bind λx7=>
  if¬((x7.length:Int)=a0.1) then(some (.error false)) else((ck (y5+1)).bind λx8=>
  fh k a0 a1 n x8)) else(some (.ok ()))
def kW(k:Nat)(a0:ae)(a1:(List (List Int))):Option Bool:=
 (ck ((a0.2.2.2.2.1.length:Int)+1)).bind λx2=>
 if¬((a1.length:Int)=x2) then(some false) else(bE (α:=Unit) (fh k a0 a1 k 0) (some) λ_=>
 some true)
theorem xO(k:Nat)(a0:ae)(a1:(List (List Int)))(r:Bool)(h:kW k a0 a1=some r):
 dG Tryz.prog 13 [.rep ao a0,.rep (.slice Tl) a1] [] (λ_:Unit=>(bL [.eq (.bool r)],[])):=by
 unfold kW at h
 replace h:=bo h
 refine dG.of 27 Tryz.func13 rfl Tryz.ntmps13 rfl λS w0=>?_
 refine sr ?_
 refine bx λb1=>?_
 refine cq ?_
 refine nt ?_
 refine ak ?_
 refine sr ?_
 refine mq ?_
 refine ol qx ?_
 refine fl eh ?_
 refine lo kD ?_
 refine ol vl ?_
 obtain⟨x2,l,h⟩:=aa h
 refine jb (bh rfl l) ?_
 refine jb (dZ rfl) ?_
 refine nt ?_
 refine cn h (λh=>?_) (λh=>?_)
 .
  refine sr (cq (nt (rx ?_)));cases h;exact ra
 .
  refine sk (dx (Z:=Unit) (α:=Unit) (λz4 x3=>[]) (λz4 x3=>[]) (λe=>e=r) h (λe h=>Option.some.inj h) (λK hR h=>?_) (λz4 x3 h=>?_))
  .refine sr (cq (nt (aj ?_)));refine aF (λz6 y5=>[(1,.rep (.slice Tl) a1),(2,Pt b1),(5,I y5)]) (λz6 y5=>[.obj b1 26 (.rep ao a0)]) (fh k a0 a1) k () 0 (λ_=>rfl) h (SE.fin [0] ⟨rfl,rfl,rfl,trivial⟩ rfl) (λn z6 y5 h=>?_);unfold fh at h;refine ak (sr ?_);iterate 2 refine mq ?_
   refine ol qx ?_;refine jb (bK rfl) ?_;refine nt (ci h (λh=>?_) (λh=>?_))
   .refine sk (ak (aj (ak (c9 ?_))));refine dm ?_;refine dm ?_;obtain⟨x7,j,h⟩:=aa h;refine db (bj (t:=Tl) rfl qx iQ j) ?_;refine da (au (t:=Tl) rfl iQ rfl) ?_;refine da (pC rfl rfl iK) ?_;refine da (aH rfl gp) ?_;refine ea 0 (av rfl cM pr rfl) ?_;refine df eO ?_;refine jb (dZ rfl) ?_;refine nt (cn h (λh=>?_) (λh=>?_))
    .refine sr (cq (nt (ay (br (aZ (aU ?_))))));obtain rfl:=hR _ h;exact ra
    .refine aY (aN (tn (ab (mq ?_))));obtain⟨x8,c,h⟩:=aa h;refine jb (bh rfl c) ?_;refine aq (nl ?_);exact jz ((),x8) h [0]
   .refine xa ?_;exact jz ((),()) h []
  .refine sr (cq (nt (ay ?_)));cases h;exact ra
def iH(k:Nat)(a0:Int)(a1:Int):Option Int:=
 if a0=a1 then((ck (0+1)).bind λx1=>
 (ck (x1+1)).bind λx2=>
 if x2=0 then(some 2) else(if x2=1 then(some 3) else(some 1))) else(if 0 < a0 then((ck (0+1)).bind λx3=>
 if x3=0 then(some 2) else(if x3=1 then(some 3) else(some 1))) else(if 0=0 then(some 2) else(if 0=1 then(some 3) else(some 1))))
theorem um(k:Nat)(a0:Int)(a1:Int)(r:Int)(h:iH k a0 a1=some r):
 dG Tryz.prog 43 [I a0,I a1] [] (λ_:Unit=>(bL [I r],[])):=by
 unfold iH at h
 replace h:=bo h
 refine dG.of 22 Tryz.func43 rfl Tryz.ntmps43 rfl λS w0=>?_
 refine sr ?_
 refine cq ?_
 refine nt ?_
 refine sr ?_
 refine cq ?_
 refine nt ?_
 refine ak ?_
 refine aj ?_
 refine ak ?_
 refine aj ?_
 refine ak ?_
 refine aj ?_
 refine ak ?_
 refine ak ?_
 refine sr ?_
 iterate 2 refine mq ?_
 refine jb (fH rfl) ?_
 refine aq ?_
 refine nt ?_
 refine ci h (λh=>?_) (λh=>?_)
 .
  refine eu (bv (bv (cH (tn (ab (mq ?_))))));obtain⟨x1,j,h⟩:=aa h;refine jb (bh rfl j) ?_;refine aq (aC (aN (tn (sr ?_))));refine mq ?_;obtain⟨x2,e,h⟩:=aa h;refine jb (bh rfl e) ?_;refine aq (nt (eu (cH (tn (ak (sr ?_))))));refine mq (nt (aj (sr ?_)));refine jb (fH rfl) ?_;refine aq (nt ?_);refine ci h (λh=>?_) (λh=>?_)
  .refine sr (cq (nt (ay (aZ (aU ?_)))));cases h;exact ra
  .refine sr (jb (fH rfl) ?_);refine aq (nt ?_);refine ci h (λh=>?_) (λh=>?_)
   .refine sr (cq (nt (ay (aZ (aU ?_)))));cases h;exact ra
   .refine aY (aN (tn (sr (cq (nt (ay ?_))))));cases h;exact ra
 .
  refine sk (sr (mq ?_));refine jb (lT rfl) ?_;refine aq (nt ?_);refine ci h (λh=>?_) (λh=>?_)
  .refine eu (bv (oJ (eq_false (by decide)) ?_));refine bv (cH (tn (sr (mq ?_))));obtain⟨x3,c,h⟩:=aa h;refine jb (bh rfl c) ?_;refine aq (nt (eu (cH (tn (ak (sr ?_))))));refine mq (nt (aj (sr ?_)));refine jb (fH rfl) ?_;refine aq (nt ?_);refine ci h (λh=>?_) (λh=>?_)
   .refine sr (cq (nt (ay (aZ (aU ?_)))));cases h;exact ra
   .refine sr (jb (fH rfl) ?_);refine aq (nt ?_);refine ci h (λh=>?_) (λh=>?_)
    .refine sr (cq (nt (ay (aZ (aU ?_)))));cases h;exact ra
    .refine aY (aN (tn (sr (cq (nt (ay ?_))))));cases h;exact ra
  .refine sk (eu (oJ (eq_false (by decide)) ?_));refine bv (oJ (eq_false (by decide)) ?_);refine bv (cH (tn (ak (sr (mq (nt (aj (sr ?_))))))));refine jb (fH rfl) ?_;refine aq (nt ?_);refine ci h (λh=>?_) (λh=>?_)
   .refine sr (cq (nt (ay (aZ (aU ?_)))));cases h;exact ra
   .refine sr (jb (fH rfl) ?_);refine aq (nt ?_);refine ci h (λh=>?_) (λh=>?_)
    .refine sr (cq (nt (ay (aZ (aU ?_)))));cases h;exact ra
    .refine aY (aN (tn (sr (cq (nt (ay ?_))))));cases h;exact ra
def dR(k:Nat)(a0:(List Int)):Nat->(Int×Int)->Option Int
 |0,_=>none
 |n+1,y4=>
  if y4.2 < (a0.length:Int) then((aJ a0 y4.2).bind λx6=>
  (ck (y4.2+1)).bind λx7=>
  dR k a0 n (pu y4.1 x6,x7)) else(some y4.1)
def iD(k:Nat)(a0:(List Int)):Option Int:=
 if(a0.length:Int) < 1 then(none) else((aJ a0 0).bind λx1=>
 ((dR k a0 k (x1,1)):Option (Int)).bind λx2=>
 some x2)
theorem nT(k:Nat)(a0:(List Int))(r:Int)(h:iD k a0=some r):
 dG Tryz.prog 45 [.rep Tl a0] [] (λ_:Unit=>(bL [I r],[])):=by
 unfold iD at h
 replace h:=bo h
 refine dG.of 25 Tryz.func45 rfl Tryz.ntmps45 rfl λS w0=>?_
 refine sr ?_
 refine cq ?_
 refine nt ?_
 refine ak ?_
 refine sr ?_
 refine mq ?_
 refine ol iK ?_
 refine jb (bK rfl) ?_
 refine nt ?_
 refine ci h (λh=>?_) (λh=>?_)
 .
  cases h
 .
  refine sk (sr (mq ?_));obtain⟨x1,j,h⟩:=aa h;refine jb (bj (t:=Ti) rfl iK cM j) ?_;refine ja (au (t:=Ti) rfl cM rfl) ?_;refine aq (nt ?_);refine aD (Z:=Unit) (α:=Int) (λz3 x2=>[(3,I x2)]) (λz3 x2=>[]) h (λK h=>?_) (λz3 x2 h=>?_)
  .refine sr (cq (nt (aj ?_)));refine aF (λz5 y4=>[(0,.rep Tl a0),(3,I y4.1),(4,I y4.2)]) (λz5 y4=>[]) (dR k a0) k () (x1,1) (λ_=>rfl) h (SE.fin [] ⟨rfl,rfl,rfl,trivial⟩ rfl) (λn z5 y4 h=>?_);unfold dR at h;refine ak (sr ?_);iterate 2 refine mq ?_
   refine ol iK ?_;refine jb (bK rfl) ?_;refine nt (ci h (λh=>?_) (λh=>?_))
   .refine sk (ak (aj (ab ?_)));iterate 3 refine mq ?_
    obtain⟨x6,e,h⟩:=aa h;refine jb (bj (t:=Ti) rfl iK cM e) ?_;refine ja (au (t:=Ti) rfl cM rfl) ?_;refine jb (Nb rfl rfl) ?_;refine aq (aC (aN (tn (ab ?_))));refine mq ?_;obtain⟨x7,c,h⟩:=aa h;refine jb (bh rfl c) ?_;refine aq (nl ?_);exact jz ((),(pu y4.1 x6,x7)) h []
   .refine xa ?_;exact jz ((),y4.1) h []
  .refine sr (mq ?_);refine aq (nt (ay ?_));cases h;exact ra
def dS(k:Nat)(a0:(List Int)):Nat->(Int×Int)->Option Int
 |0,_=>none
 |n+1,y4=>
  if y4.2 < (a0.length:Int) then((aJ a0 y4.2).bind λx6=>
  (ck (y4.2+1)).bind λx7=>
  dS k a0 n (kK y4.1 x6,x7)) else(some y4.1)
def jI(k:Nat)(a0:(List Int)):Option Int:=
 if(a0.length:Int) < 1 then(none) else((aJ a0 0).bind λx1=>
 ((dS k a0 k (x1,1)):Option (Int)).bind λx2=>
 some x2)
theorem t4(k:Nat)(a0:(List Int))(r:Int)(h:jI k a0=some r):
 dG Tryz.prog 46 [.rep Tl a0] [] (λ_:Unit=>(bL [I r],[])):=by
 unfold jI at h
 replace h:=bo h
 refine dG.of 25 Tryz.func46 rfl Tryz.ntmps46 rfl λS w0=>?_
 refine sr ?_
 refine cq ?_
 refine nt ?_
 refine ak ?_
 refine sr ?_
 refine mq ?_
 refine ol iK ?_
 refine jb (bK rfl) ?_
 refine nt ?_
 refine ci h (λh=>?_) (λh=>?_)
 .
  cases h
 .
  refine sk (sr (mq ?_));obtain⟨x1,j,h⟩:=aa h;refine jb (bj (t:=Ti) rfl iK cM j) ?_;refine ja (au (t:=Ti) rfl cM rfl) ?_;refine aq (nt ?_);refine aD (Z:=Unit) (α:=Int) (λz3 x2=>[(3,I x2)]) (λz3 x2=>[]) h (λK h=>?_) (λz3 x2 h=>?_)
  .refine sr (cq (nt (aj ?_)));refine aF (λz5 y4=>[(0,.rep Tl a0),(3,I y4.1),(4,I y4.2)]) (λz5 y4=>[]) (dS k a0) k () (x1,1) (λ_=>rfl) h (SE.fin [] ⟨rfl,rfl,rfl,trivial⟩ rfl) (λn z5 y4 h=>?_);unfold dS at h;refine ak (sr ?_);iterate 2 refine mq ?_
   refine ol iK ?_;refine jb (bK rfl) ?_;refine nt (ci h (λh=>?_) (λh=>?_))
   .refine sk (ak (aj (ab ?_)));iterate 3 refine mq ?_
    obtain⟨x6,e,h⟩:=aa h;refine jb (bj (t:=Ti) rfl iK cM e) ?_;refine ja (au (t:=Ti) rfl cM rfl) ?_;refine jb (CL rfl rfl) ?_;refine aq (aC (aN (tn (ab ?_))));refine mq ?_;obtain⟨x7,c,h⟩:=aa h;refine jb (bh rfl c) ?_;refine aq (nl ?_);exact jz ((),(kK y4.1 x6,x7)) h []
   .refine xa ?_;exact jz ((),y4.1) h []
  .refine sr (mq ?_);refine aq (nt (ay ?_));cases h;exact ra
def ir(k:Nat)(a0:(List Int))(a1:(List Int)):Nat->Int->Option (Except Bool Unit)
 |0,_=>none
 |n+1,y3=>
  if y3 < (a0.length:Int) then((aJ a0 y3).bind λx5=>
  (aJ a1 y3).bind λx6=>
  if¬(x5=x6) then(some (.error false)) else((ck (y3+1)).bind λx7=>
  ir k a0 a1 n x7)) else(some (.ok ()))
def iZ(k:Nat)(a0:(List Int))(a1:(List Int)):Option Bool:=
 if¬((a0.length:Int)=(a1.length:Int)) then(some false) else(bE (α:=Unit) (ir k a0 a1 k 0) (some) λ_=>
 some true)
theorem kp(k:Nat)(a0:(List Int))(a1:(List Int))(r:Bool)(h:iZ k a0 a1=some r):
 dG Tryz.prog 32 [.rep Tl a0,.rep Tl a1] [] (λ_:Unit=>(bL [.eq (.bool r)],[])):=by
 unfold iZ at h
 replace h:=bo h
 refine dG.of 26 Tryz.func32 rfl Tryz.ntmps32 rfl λS w0=>?_
 refine sr ?_
 refine cq ?_
 refine nt ?_
 refine ak ?_
 refine sr ?_
 refine mq ?_
 refine ol iK ?_
 refine mq ?_
 refine ol iK ?_
 refine jb (dZ rfl) ?_
 refine nt ?_
 refine cn h (λh=>?_) (λh=>?_)
 .
  refine sr (cq (nt (rx ?_)));cases h;exact ra
 .
  refine sk (dx (Z:=Unit) (α:=Unit) (λz2 x1=>[]) (λz2 x1=>[]) (λe=>e=r) h (λe h=>Option.some.inj h) (λK hR h=>?_) (λz2 x1 h=>?_))
  .refine sr (cq (nt (aj ?_)));refine aF (λz4 y3=>[(0,.rep Tl a0),(1,.rep Tl a1),(5,I y3)]) (λz4 y3=>[]) (ir k a0 a1) k () 0 (λ_=>rfl) h (SE.fin [] ⟨rfl,rfl,rfl,trivial⟩ rfl) (λn z4 y3 h=>?_);unfold ir at h;refine ak (sr ?_);iterate 2 refine mq ?_
   refine ol iK ?_;refine jb (bK rfl) ?_;refine nt (ci h (λh=>?_) (λh=>?_))
   .refine sk (ak (aj (ak (c9 ?_))));refine dm ?_;refine dm ?_;obtain⟨x5,l,h⟩:=aa h;refine db (bj (t:=Ti) rfl iK cM l) ?_;refine da (au (t:=Ti) rfl cM rfl) ?_;refine dm ?_;refine dm ?_;obtain⟨x6,j,h⟩:=aa h;refine db (bj (t:=Ti) rfl iK cM j) ?_;refine da (au (t:=Ti) rfl cM rfl) ?_;refine df eO ?_;refine jb (dZ rfl) ?_;refine nt (cn h (λh=>?_) (λh=>?_))
    .refine sr (cq (nt (ay (br (aZ (aU ?_))))));obtain rfl:=hR _ h;exact ra
    .refine aY (aN (tn (ab (mq ?_))));obtain⟨x7,c,h⟩:=aa h;refine jb (bh rfl c) ?_;refine aq (nl ?_);exact jz ((),x7) h []
   .refine xa ?_;exact jz ((),()) h []
  .refine sr (cq (nt (ay ?_)));cases h;exact ra
def lA(k:Nat)(a0:Int)(a1:Int)(a2:Bool):Option bI:=
 some (a0,a1,a2)
theorem mg(k:Nat)(a0:Int)(a1:Int)(a2:Bool)(r:bI)(h:lA k a0 a1 a2=some r):
 dG Tryz.prog 27 [I a0,I a1,.eq (.bool a2)] [] (λ_:Unit=>(bL [.rep bf r],[])):=by
 unfold lA at h
 replace h:=bo h
 refine dG.of 11 Tryz.func27 rfl Tryz.ntmps27 rfl λS w0=>?_
 refine sr ?_
 refine aX rfl rfl rfl (bg rfl Ea LP) trivial λb1=>?_
 refine nt ?_
 refine sr ?_
 iterate 3 refine mq ?_
 refine jc (dq [(0,.tmp 7,_),(1,.tmp 8,_),(2,.tmp 9,_)] rfl Qg Ea Nw (hP ⟨rfl,rfl,rfl,trivial⟩) rfl) ?_
 refine aM rfl rfl (aL rfl tV trivial rfl rfl) ⟨rfl,rfl,trivial⟩ ?_
 refine nt ?_
 refine ay ?_
 refine bY (iu (a:=.agg (.pair (I a0) (.pair (I a1) (.eq (.bool a2))))) (a':=.rep bf (a0,a1,a2)) (jx (.agg (.pair .int (.pair .int .bool))))) ?_
 cases h
 exact aR () [.rep bf (a0,a1,a2)] 0 ⟨⟨_,_,_,_,_,rfl,(.head _),tV,(qR),rfl⟩,trivial⟩ rfl
def iJ(k:Nat)(a0:(List bI)):Option ae:=
 (lA k 1 2 true).bind λr2=>
 (lA k 2 1 false).bind λr3=>
 (lA k 3 3 false).bind λr4=>
 (cN (bP (length [r2,r3,r4]+length a0))).bind λ_=>
 some (4,1,1,2,[[[0,1,2],[3]],[[0,1],[2,3]],[[1,2,3]],[[1,3],[2]]],[r2,r3,r4]++a0)
theorem gW(k:Nat)(a0:(List bI))(r:ae)(h:iJ k a0=some r):
 dG Tryz.prog 47 [Rs bf a0] [] (λ_:Unit=>(bL [.rep ao r],[])):=by
 unfold iJ at h
 replace h:=bo h
 refine dG.of 24 Tryz.func47 rfl Tryz.ntmps47 rfl λS w0=>?_
 refine sr ?_
 refine aX rfl rfl rfl (bg rfl yD E6) trivial λb1=>?_
 refine nt ?_
 refine sr ?_
 obtain⟨r2,l,h⟩:=aa h
 have u:=mg k 1 2 true r2 l
 refine jc (aA [.const (.int .i64 (1)),.const (.int .i64 (2)),.const (.bool true)] rfl rfl OZ rfl u) ?_
 obtain⟨r3,j,h⟩:=aa h
 have s:=mg k 2 1 false r3 j
 refine jc (aA [.const (.int .i64 (2)),.const (.int .i64 (1)),.const (.bool false)] rfl rfl OZ rfl s) ?_
 obtain⟨r4,e,h⟩:=aa h
 have n:=mg k 3 3 false r4 e
 refine jc (aA [.const (.int .i64 (3)),.const (.int .i64 (3)),.const (.bool false)] rfl rfl OZ rfl n) ?_
 refine aX rfl rfl rfl (mV (t:=bf) [(.tmp 4,_),(.tmp 5,_),(.tmp 6,_)] [r2,r3,r4] rfl rfl JX (.cons rfl .rep (.cons rfl .rep (.cons rfl .rep .nil))) rfl rfl) ⟨rfl,rfl,rfl,trivial⟩ λv5=>?_
 refine aq ?_
 refine nt ?_
 refine sr ?_
 refine jc (bb (t:=Ti) [(.const (.int .i64 (0)),_),(.const (.int .i64 (1)),_),(.const (.int .i64 (2)),_)] [0,1,2] rfl rfl dT (.cons rfl .int (.cons rfl .int (.cons rfl .int .nil))) rfl rfl) ?_
 refine ja (bb (t:=Ti) [(.const (.int .i64 (3)),_)] [3] rfl rfl dT (.cons rfl .int .nil) rfl rfl) ?_
 refine jb (bb (t:=Tl) [(.tmp 8,_),(.tmp 9,_)] [[0,1,2],[3]] rfl rfl nE (.cons rfl .rep (.cons rfl .rep .nil)) rfl rfl) ?_
 refine jb (bb (t:=Ti) [(.const (.int .i64 (0)),_),(.const (.int .i64 (1)),_)] [0,1] rfl rfl dT (.cons rfl .int (.cons rfl .int .nil)) rfl rfl) ?_
 refine jb (bb (t:=Ti) [(.const (.int .i64 (2)),_),(.const (.int .i64 (3)),_)] [2,3] rfl rfl dT (.cons rfl .int (.cons rfl .int .nil)) rfl rfl) ?_
 refine jb (bb (t:=Tl) [(.tmp 11,_),(.tmp 12,_)] [[0,1],[2,3]] rfl rfl nE (.cons rfl .rep (.cons rfl .rep .nil)) rfl rfl) ?_
 refine jc (bb (t:=Ti) [(.const (.int .i64 (1)),_),(.const (.int .i64 (2)),_),(.const (.int .i64 (3)),_)] [1,2,3] rfl rfl dT (.cons rfl .int (.cons rfl .int (.cons rfl .int .nil))) rfl rfl) ?_
 refine ja (bb (t:=Tl) [(.tmp 14,_)] [[1,2,3]] rfl rfl nE (.cons rfl .rep .nil) rfl rfl) ?_
 refine jb (bb (t:=Ti) [(.const (.int .i64 (1)),_),(.const (.int .i64 (3)),_)] [1,3] rfl rfl dT (.cons rfl .int (.cons rfl .int .nil)) rfl rfl) ?_
 refine ja (bb (t:=Ti) [(.const (.int .i64 (2)),_)] [2] rfl rfl dT (.cons rfl .int .nil) rfl rfl) ?_
 refine jb (bb (t:=Tl) [(.tmp 16,_),(.tmp 17,_)] [[1,3],[2]] rfl rfl nE (.cons rfl .rep (.cons rfl .rep .nil)) rfl rfl) ?_
 refine cf rfl (bb (t:=(.slice Tl)) [(.tmp 10,_),(.tmp 13,_),(.tmp 15,_),(.tmp 18,_)] [[[0,1,2],[3]],[[0,1],[2,3]],[[1,2,3]],[[1,3],[2]]] rfl rfl xh (.cons rfl .rep (.cons rfl .rep (.cons rfl .rep (.cons rfl .rep .nil)))) rfl rfl) ⟨rfl,rfl,rfl,rfl,trivial⟩ ?_
 iterate 2 refine mq ?_
 obtain⟨u6,c,h⟩:=aa h
 refine er rfl rfl rfl (cI rfl rfl JX (am c)) ⟨rfl,rfl,trivial⟩ λv7=>?_
 refine eB (jt [22] ⟨rfl,trivial⟩) ?_
 refine cf rfl (dq [(0,.const (.int .i64 (4)),_),(1,.const (.int .i64 (1)),_),(2,.const (.int .i64 (1)),_),(3,.const (.int .i64 (2)),_),(4,.tmp 19,_),(5,.tmp 22,_)] rfl Qh yD Nx (hP ⟨rfl,rfl,rfl,rfl,rfl,rfl,trivial⟩) rfl) ⟨rfl,rfl,rfl,rfl,rfl,rfl,trivial⟩ ?_
 refine aM rfl rfl (aL rfl hJ trivial rfl rfl) ⟨rfl,rfl,trivial⟩ ?_
 refine nt ?_
 refine ay ?_
 refine bY (iu (a:=.agg (.pair (I 4) (.pair (I 1) (.pair (I 1) (.pair (I 2) (.pair (.rep (.slice (.slice Tl)) [[[0,1,2],[3]],[[0,1],[2,3]],[[1,2,3]],[[1,3],[2]]]) (Rs bf ([r2,r3,r4]++a0)))))))) (a':=.rep ao (4,1,1,2,[[[0,1,2],[3]],[[0,1],[2,3]],[[1,2,3]],[[1,3],[2]]],[r2,r3,r4]++a0)) (jx (.agg (.pair .int (.pair .int (.pair .int (.pair .int (.pair .rep .rep)))))))) ?_
 cases h
 exact aR () [.rep ao (4,1,1,2,[[[0,1,2],[3]],[[0,1],[2,3]],[[1,2,3]],[[1,3],[2]]],[r2,r3,r4]++a0)] 0 ⟨⟨_,_,_,_,_,rfl,(.head _),hJ,(qR),rfl⟩,trivial⟩ rfl
def fQ(k:Nat):Nat->((List Int)×Int×Int)->Option (List Int)
 |0,_=>none
 |n+1,y2=>
  if y2.2.1 < y2.2.2 then((aJ y2.1 y2.2.2).bind λx4=>
  (aJ y2.1 y2.2.1).bind λx5=>
  (aJ y2.1 y2.2.1).bind λx6=>
  (aJ (List.set y2.1 (Int.toNat y2.2.1) x4) y2.2.2).bind λx7=>
  (ck (y2.2.1+1)).bind λx8=>
  (ck (y2.2.2 - 1)).bind λx9=>
  fQ k n (List.set (List.set y2.1 (Int.toNat y2.2.1) x4) (Int.toNat y2.2.2) x5,x8,x9)) else(some y2.1)
def j8(k:Nat)(a0:(List Int)):Option (List Int):=
 (ck ((a0.length:Int) - 1)).bind λx1=>
 fQ k k (a0,0,x1)
theorem pQ(k:Nat)(a0:(List Int))(c:Value)(r:(List Int))(h:j8 k a0=some r):
 dG Tryz.prog 81 [.eq c] [.sl c 3 Ti a0] (λ_:Unit=>(bL [],[.sl c 3 Ti r])):=by
 unfold j8 at h
 replace h:=bo h
 refine dG.of 28 Tryz.func81 rfl Tryz.ntmps81 rfl λS w0=>?_
 refine sr ?_
 refine mq ?_
 refine ka (iF rfl rfl iK) ?_
 obtain⟨x1,mc,h⟩:=aa h
 refine jb (eN rfl mc) ?_
 refine cq ?_
 refine aq ?_
 refine nt ?_
 refine aj ?_
 refine aF (λz3 y2=>[(0,.eq c),(2,I y2.2.1),(3,I y2.2.2)]) (λz3 y2=>[.sl c 3 Ti y2.1]) (fQ k) k () (a0,0,x1) (λ_=>rfl) h (SE.fin [0] ⟨rfl,rfl,rfl,trivial⟩ rfl) (λn z3 y2 h=>?_)
 unfold fQ at h
 refine ak ?_
 refine sr ?_
 iterate 2 refine mq ?_
 refine jb (bK rfl) ?_
 refine nt ?_
 refine ci h (λh=>?_) (λh=>?_)
 .
  refine sk (ak (aj (rH ?_)));refine bT rfl rfl rfl (bJ rfl) ⟨rfl,trivial⟩ ?_;refine bT rfl rfl rfl (bJ rfl) ⟨rfl,trivial⟩ ?_;refine bT rfl rfl rfl (bJ rfl) ⟨rfl,trivial⟩ ?_;refine bT rfl rfl rfl (bJ rfl) ⟨rfl,trivial⟩ ?_;refine bT rfl rfl rfl (bJ rfl) ⟨rfl,trivial⟩ ?_;refine bT rfl rfl rfl (bJ rfl) ⟨rfl,trivial⟩ ?_;obtain⟨x4,D,h⟩:=aa h;refine hH 0 rfl rfl rfl rfl (bq (t:=Ti) rfl iK cM D) ⟨rfl,rfl,trivial⟩ ?_;refine hH 0 rfl rfl rfl rfl (dI (i:=Int.toNat y2.2.2) (off:=0) rfl cM (λ_=>rfl) rfl (cL D).2.2 rfl) ⟨rfl,trivial⟩ ?_;refine bT rfl rfl rfl (bJ rfl) ⟨rfl,trivial⟩ ?_;refine bT rfl rfl rfl (bJ rfl) ⟨rfl,trivial⟩ ?_;obtain⟨x5,y,h⟩:=aa h;refine hH 0 rfl rfl rfl rfl (bq (t:=Ti) rfl iK cM y) ⟨rfl,rfl,trivial⟩ ?_;refine hH 0 rfl rfl rfl rfl (dI (i:=Int.toNat y2.2.1) (off:=0) rfl cM (λ_=>rfl) rfl (cL y).2.2 rfl) ⟨rfl,trivial⟩ ?_;obtain⟨x6,x,h⟩:=aa h;refine hH 0 rfl rfl rfl rfl (bq (t:=Ti) rfl iK cM x) ⟨rfl,rfl,trivial⟩ ?_;refine ve 13 [true,true,false,false,true,true,true,true,true,true,true,true,true] [27] [] [] rfl (by kernel_rfl) (by kernel_rfl) (by kernel_rfl) eO (λvs hv hB=>?_);obtain⟨w0,UZ,rfl,Y⟩:=ax hv;obtain⟨w1,UY,rfl,X⟩:=ax Y;obtain⟨w2,UX,rfl,U⟩:=ax X;obtain⟨w3,UW,rfl,Q⟩:=ax U;obtain⟨w4,UV,rfl,O⟩:=ax Q;obtain⟨w5,UU,rfl,M⟩:=ax O;obtain⟨w6,UT,rfl,J⟩:=ax M;obtain⟨w7,US,rfl,F⟩:=ax J;obtain⟨w8,UR,rfl,E⟩:=ax F;obtain⟨w9,UN,rfl,s⟩:=ax E;obtain⟨UQ,zz,rfl,l⟩:=ax s;obtain⟨UP,qt,rfl,j⟩:=ax l;obtain⟨UO,mw,rfl,e⟩:=ax j;obtain rfl:=qY e;refine⟨[0],[.sl c 3 Ti y2.1],by kernel_rfl,by decide,?_⟩;refine sW rfl rfl (fG (i:=Int.toNat y2.2.1) rfl cM rfl (l7 x) rfl .int rfl) ⟨rfl,rfl,trivial⟩ (by kernel_rfl) ?_;obtain⟨x7,u,h⟩:=aa h;refine va rfl rfl rfl rfl (bq (t:=Ti) rfl iK cM u) ⟨rfl,rfl,trivial⟩ (by kernel_rfl) ?_;refine sW rfl rfl (fG (i:=Int.toNat y2.2.2) rfl cM rfl (l7 u) rfl .int rfl) ⟨rfl,rfl,trivial⟩ (by kernel_rfl) ?_;refine yu ?_;refine bY (SE.fin (Γ':=[(0,.eq c),(2,I y2.2.1),(3,I y2.2.2)]) (Δ':=[.sl c 3 Ti (List.set (List.set y2.1 (Int.toNat y2.2.1) x4) (Int.toNat y2.2.2) x5)]) [0] ⟨rfl,rfl,rfl,trivial⟩ rfl) ?_;refine aN (tn (ab (mq ?_)));obtain⟨x8,gw,h⟩:=aa h;refine jb (bh rfl gw) ?_;refine mq ?_;obtain⟨x9,Z,h⟩:=aa h;refine jb (eN rfl Z) ?_;refine aq ?_;refine aq (nl ?_);exact jz ((),(List.set (List.set y2.1 (Int.toNat y2.2.1) x4) (Int.toNat y2.2.2) x5,x8,x9)) h [0]
 .
  refine eu (bv (bv (cH (j6 ?_))));cases h;exact aR () [] 1 trivial rfl
def kH(k:Nat)(a0:Int):Option Int:=
 (fW k a0).bind λr1=>
 some (r1.length:Int)
theorem nz(k:Nat)(a0:Int)(r:Int)(h:kH k a0=some r):
 dG Tryz.prog 88 [.eq (.int .u8 a0)] [] (λ_:Unit=>(bL [I r],[])):=by
 unfold kH at h
 replace h:=bo h
 refine dG.of 6 Tryz.func88 rfl Tryz.ntmps88 rfl λS w0=>?_
 refine sr ?_
 refine cq ?_
 refine nt ?_
 refine sr ?_
 refine mq ?_
 obtain⟨r1,c,h⟩:=aa h
 have e:=km k a0 r1 c
 refine ja (aA [.tmp 3] rfl rfl OX rfl e) ?_
 refine ol iK ?_
 refine aq ?_
 refine nt ?_
 refine ay ?_
 cases h
 exact ra
def na(k:Nat)(a0:Int)(a1:Int):Option Int:=
 (kH k a0).bind λr1=>
 (kH k a1).bind λr2=>
 (ck (r1 - r2)).bind λx3=>
 some x3
theorem tj(k:Nat)(a0:Int)(a1:Int)(c:Nat)(r:Int)(h:na k a0 a1=some r):
 dG Tryz.prog 116 [.eq (.int .u8 a0),.eq (.int .u8 a1),Pt c] [.obj c 140 (.eq (.func (.func 88) #[] #[]))] (λ_:Unit=>(bL [I r],[.obj c 140 (.eq (.func (.func 88) #[] #[]))])):=by
 unfold na at h
 replace h:=bo h
 refine dG.of 13 Tryz.func116 rfl Tryz.ntmps116 rfl λS w0=>?_
 refine sr ?_
 refine cq ?_
 refine nt ?_
 refine ak ?_
 refine c9 ?_
 refine ea 0 (av rfl M6 pr rfl) ?_
 refine dm ?_
 obtain⟨r1,l,h⟩:=aa h
 have s:=nz k a0 r1 l
 refine db (tD (fs:=[]) (cs:=[]) (ags:=[.eq (.int .u8 a0)]) [.tmp 7] rfl rfl QW rfl s) ?_
 refine ea 0 (av rfl M6 pr rfl) ?_
 refine dm ?_
 refine df eO ?_
 obtain⟨r2,j,h⟩:=aa h
 have n:=nz k a1 r2 j
 refine jb (tD (fs:=[]) (cs:=[]) (ags:=[.eq (.int .u8 a1)]) [.tmp 10] rfl rfl QW rfl n) ?_
 obtain⟨x3,e,h⟩:=aa h
 refine jb (eN rfl e) ?_
 refine aq ?_
 refine nt ?_
 refine ay ?_
 cases h
 exact aR () [_] 1 ⟨rfl,trivial⟩ rfl
def fR(k:Nat)(a0:(List Int)):Nat->(Int×Int)->Option Int
 |0,_=>none
 |n+1,y4=>
  if y4.2 < (a0.length:Int) then((((aJ a0 y4.2).bind λx8=>
  (na k x8 y4.1).bind λr9=>
  if r9 < 0 then((aJ a0 y4.2).bind λe=>
  some e) else(some y4.1)):Option (Int)).bind λx6=>
  (ck (y4.2+1)).bind λc=>
  fR k a0 n (x6,c)) else(some y4.1)
def j9(k:Nat)(a0:(List Int)):Option Int:=
 if(a0.length:Int) < 1 then(none) else((aJ a0 0).bind λx1=>
 ((fR k a0 k (x1,1)):Option (Int)).bind λx2=>
 some x2)
theorem pR(k:Nat)(a0:(List Int))(c_a1_0:Nat)(r:Int)(h:j9 k a0=some r):
 dG Tryz.prog 115 [.rep (.slice (.int .u8)) a0,.eq (.func (.func 116) #[] #[(Pv c_a1_0)])] [.obj c_a1_0 140 (.eq (.func (.func 88) #[] #[]))] (λ_:Unit=>(bL [.eq (.int .u8 r)],[.obj c_a1_0 140 (.eq (.func (.func 88) #[] #[]))])):=by
 unfold j9 at h
 replace h:=bo h
 refine dG.of 33 Tryz.func115 rfl Tryz.ntmps115 rfl λS w0=>?_
 refine sr ?_
 refine cq ?_
 refine nt ?_
 refine ak ?_
 refine sr ?_
 refine mq ?_
 refine ol yq ?_
 refine jb (bK rfl) ?_
 refine nt ?_
 refine ci h (λh=>?_) (λh=>?_)
 .
  cases h
 .
  refine sk (sr (mq ?_));obtain⟨x1,u,h⟩:=aa h;refine jb (bj (t:=(.int .u8)) rfl yq nP u) ?_;refine ja (au (t:=(.int .u8)) rfl nP rfl) ?_;refine aq (nt ?_);refine aD (Z:=Unit) (α:=Int) (λz3 x2=>[(5,.eq (.int .u8 x2))]) (λz3 x2=>[.obj c_a1_0 140 (.eq (.func (.func 88) #[] #[]))]) h (λK h=>?_) (λz3 x2 h=>?_)
  .refine sr (cq (nt (aj ?_)));refine aF (λz5 y4=>[(0,.rep (.slice (.int .u8)) a0),(1,.eq (.func (.func 116) #[] #[(Pv c_a1_0)])),(5,.eq (.int .u8 y4.1)),(6,I y4.2)]) (λz5 y4=>[.obj c_a1_0 140 (.eq (.func (.func 88) #[] #[]))]) (fR k a0) k () (x1,1) (λ_=>rfl) h (SE.fin [0] ⟨rfl,rfl,rfl,rfl,trivial⟩ rfl) (λn z5 y4 h=>?_);unfold fR at h;refine ak (sr ?_);iterate 2 refine mq ?_
   refine ol yq ?_;refine jb (bK rfl) ?_;refine nt (ci h (λh=>?_) (λh=>?_))
   .refine sk (aD (Z:=Unit) (α:=Int) (λz7 x6=>[(0,.rep (.slice (.int .u8)) a0),(1,.eq (.func (.func 116) #[] #[(Pv c_a1_0)])),(5,.eq (.int .u8 x6)),(6,I y4.2)]) (λz7 x6=>[.obj c_a1_0 140 (.eq (.func (.func 88) #[] #[]))]) h (λK h=>?_) (λz7 x6 h=>?_))
    .refine aj (sr ?_);iterate 3 refine mq ?_
     obtain⟨x8,s,h⟩:=aa h;refine jb (bj (t:=(.int .u8)) rfl yq nP s) ?_;refine ja (au (t:=(.int .u8)) rfl nP rfl) ?_;refine mq ?_;obtain⟨r9,x,h⟩:=aa h;refine kc (tD (fs:=[]) (cs:=[(Pv c_a1_0)]) (ags:=[.eq (.int .u8 x8),.eq (.int .u8 y4.1)]) [.tmp 24,.tmp 25] rfl rfl Rf rfl (tj k x8 y4.1 c_a1_0 r9 x)) ?_;refine jb (bK rfl) ?_;refine nt (ci h (λh=>?_) (λh=>?_))
     .refine ab ?_;iterate 2 refine mq ?_
      obtain⟨l,e,h⟩:=aa h;refine jb (bj (t:=(.int .u8)) rfl yq nP e) ?_;refine ja (au (t:=(.int .u8)) rfl nP rfl) ?_;refine aq (aC (bn ?_));exact jz ((),l) h [0]
     .refine aY (bn ?_);exact jz ((),y4.1) h [0]
    .refine ab (mq ?_);obtain⟨j,c,h⟩:=aa h;refine jb (bh rfl c) ?_;refine aq (nl ?_);exact jz ((),(x6,j)) h [0]
   .refine xa ?_;exact jz ((),y4.1) h [0]
  .refine sr (mq ?_);refine aq (nt (ay ?_));cases h;exact aR () [_] 1 ⟨rfl,trivial⟩ rfl
def qc(k:Nat)(a0:(List Int)):Option Int:=
 (j9 k a0).bind λr2=>
 some r2
theorem vE(k:Nat)(a0:(List Int))(r:Int)(h:qc k a0=some r):
 dG Tryz.prog 87 [.rep (.slice (.int .u8)) a0,.eq (.func (.func 88) #[] #[])] [] (λ_:Unit=>(bL [.eq (.int .u8 r)],[])):=by
 unfold qc at h
 replace h:=bo h
 refine dG.of 8 Tryz.func87 rfl Tryz.ntmps87 rfl λS w0=>?_
 refine sr ?_
 refine bx λb1=>?_
 refine cq ?_
 refine nt ?_
 refine sr ?_
 refine mq ?_
 refine ja (rV [] [.tmp 3] [] [(Pv b1)] rfl rfl rfl) ?_
 obtain⟨r2,c,h⟩:=aa h
 have e:=pR k a0 b1 r2 c
 refine kb (aA [.tmp 5,.tmp 6] rfl rfl Rh rfl e) ?_
 refine aq ?_
 refine nt ?_
 refine ay ?_
 cases h
 exact ra
def gX(k:Nat)(a0:(List (List Int)))(a1:(List (List Int))):Nat->Int->Option (Except Bool Unit)
 |0,_=>none
 |n+1,y3=>
  if y3 < (a0.length:Int) then((aJ a0 y3).bind λx5=>
  (aJ a1 y3).bind λx6=>
  (iZ k x5 x6).bind λr7=>
  if¬(r7=true) then(some (.error false)) else((ck (y3+1)).bind λx8=>
  gX k a0 a1 n x8)) else(some (.ok ()))
def jF(k:Nat)(a0:(List (List Int)))(a1:(List (List Int))):Option Bool:=
 if¬((a0.length:Int)=(a1.length:Int)) then(some false) else(bE (α:=Unit) (gX k a0 a1 k 0) (some) λ_=>
 some true)
theorem mJ(k:Nat)(a0:(List (List Int)))(a1:(List (List Int)))(r:Bool)(h:jF k a0 a1=some r):
 dG Tryz.prog 51 [.rep (.slice Tl) a0,.rep (.slice Tl) a1] [] (λ_:Unit=>(bL [.eq (.bool r)],[])):=by
 unfold jF at h
 replace h:=bo h
 refine dG.of 27 Tryz.func51 rfl Tryz.ntmps51 rfl λS w0=>?_
 refine sr ?_
 refine cq ?_
 refine nt ?_
 refine ak ?_
 refine sr ?_
 refine mq ?_
 refine ol qx ?_
 refine mq ?_
 refine ol qx ?_
 refine jb (dZ rfl) ?_
 refine nt ?_
 refine cn h (λh=>?_) (λh=>?_)
 .
  refine sr (cq (nt (rx ?_)));cases h;exact ra
 .
  refine sk (dx (Z:=Unit) (α:=Unit) (λz2 x1=>[]) (λz2 x1=>[]) (λe=>e=r) h (λe h=>Option.some.inj h) (λK hR h=>?_) (λz2 x1 h=>?_))
  .refine sr (cq (nt (aj ?_)));refine aF (λz4 y3=>[(0,.rep (.slice Tl) a0),(1,.rep (.slice Tl) a1),(5,I y3)]) (λz4 y3=>[]) (gX k a0 a1) k () 0 (λ_=>rfl) h (SE.fin [] ⟨rfl,rfl,rfl,trivial⟩ rfl) (λn z4 y3 h=>?_);unfold gX at h;refine ak (sr ?_);iterate 2 refine mq ?_
   refine ol qx ?_;refine jb (bK rfl) ?_;refine nt (ci h (λh=>?_) (λh=>?_))
   .refine sk (ak (aj (ak (c9 ?_))));refine dm ?_;refine dm ?_;obtain⟨x5,l,h⟩:=aa h;refine db (bj (t:=Tl) rfl qx iQ l) ?_;refine da (au (t:=Tl) rfl iQ rfl) ?_;refine dm ?_;refine dm ?_;obtain⟨x6,j,h⟩:=aa h;refine db (bj (t:=Tl) rfl qx iQ j) ?_;refine da (au (t:=Tl) rfl iQ rfl) ?_;refine df eO ?_;obtain⟨r7,s,h⟩:=aa h;refine jb (aA [.tmp 20,.tmp 24] rfl rfl OY rfl (kp k x5 x6 r7 s)) ?_;refine ja (iE rfl) ?_;refine nt (cw h (λh=>?_) (λh=>?_))
    .refine sr (cq (nt (ay (br (aZ (aU ?_))))));obtain rfl:=hR _ h;exact ra
    .refine aY (aN (tn (ab (mq ?_))));obtain⟨x8,c,h⟩:=aa h;refine jb (bh rfl c) ?_;refine aq (nl ?_);exact jz ((),x8) h []
   .refine xa ?_;exact jz ((),()) h []
  .refine sr (cq (nt (ay ?_)));cases h;exact ra
