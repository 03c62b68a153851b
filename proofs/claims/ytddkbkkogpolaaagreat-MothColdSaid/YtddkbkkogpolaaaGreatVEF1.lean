import Derived.Test.YtddkbkkogpolaaaGreatVEFacts
import Derived.Test.YtddkbkkogpolaaaGreatVEB6
open Nat
open List hiding mem_of_getElem?
open Array hiding mem_of_getElem? mk
set_option linter.unusedSimpArgs false
set_option linter.unusedVariables false
set_option maxRecDepth 4000
set_option maxHeartbeats 1000000
namespace Go.Proofs.YtddkbkkogpolaaaGreat
open K Go Go.Proofs
def hJ(k:Nat)(a0:cx):Option (Int×cx):=
 ((if a0.2.1 < (a0.1.length:Int) then((aQ a0.1 a0.2.1).bind λx3=>
 some (IntKind.u64.wrap ((IntKind.u64.wrap ((IntKind.u64.wrap (a0.2.2 * 6364136223846793005))+1442695040888963407))+(IntKind.u64.wrap ((IntKind.u64.wrap x3) * 2862933555777941757))))) else(some (IntKind.u64.wrap ((IntKind.u64.wrap (a0.2.2 * 6364136223846793005))+1442695040888963407)))):Option (Int)).bind λx1=>
 (ck (a0.2.1+1)).bind λx4=>
 some (ia .u64 (rM .u64 (IntKind.u64.wrap ((rM .u64 x1 (ia .u64 x1 29)) * 2685821657736338717)) (ia .u64 (IntKind.u64.wrap ((rM .u64 x1 (ia .u64 x1 29)) * 2685821657736338717)) 32)) 8,(a0.1,x4,x1))
theorem rK(k:Nat)(a0:cx)(c:Nat)(r:Int×cx)(h:hJ k a0=some r):
 dB Tryz.prog 60 [Pt c] [.obj c 71 (.agg (.pair (.rep Tl a0.1) (.pair (I a0.2.1) (.eq (.int .u64 a0.2.2)))))] (λ_:Unit=>(bM [.eq (.int .u64 r.1)],[.obj c 71 (.agg (.pair (.rep Tl r.2.1) (.pair (I r.2.2.1) (.eq (.int .u64 r.2.2.2)))))])):=by
 unfold hJ at h
 replace h:=bu h
 refine dB.of 67 Tryz.func60 rfl Tryz.ntmps60 rfl λS w0=>?_
 refine sr ?_
 refine cq ?_
 refine nt ?_
 refine sr ?_
 iterate 2 refine mq ?_
 refine ja (cN rfl) ?_
 refine fl rQ ?_
 refine lo Dw ?_
 refine jb (Ax rfl) ?_
 refine jb (Gj rfl) ?_
 refine ja (cN rfl) ?_
 refine fl rQ ?_
 refine aV rfl rfl (aS rfl Dw rfl rfl rfl) ⟨rfl,rfl,trivial⟩ ?_
 refine nt ?_
 refine aL (Z:=Unit) (α:=Int) (λz2 x1=>[(0,Pt c)]) (λz2 x1=>[.obj c 71 (.agg (.pair (.rep Tl a0.1) (.pair (I a0.2.1) (.eq (.int .u64 x1)))))]) h (λK h=>?_) (λz2 x1 h=>?_)
 .
  refine am (cV ?_);refine dm ?_;refine da (cN rfl) ?_;refine da (aJ rfl xg) ?_;refine ea 0 (aE rfl cJ oU rfl) ?_;refine dm ?_;refine da (cN rfl) ?_;refine da (aJ rfl Hl) ?_;refine ea 0 (aE rfl gY oU rfl) ?_;refine da (fW rfl rfl fD) ?_;refine df eU ?_;refine jb (ba rfl) ?_;refine nt (ci h (λh=>?_) (λh=>?_))
  .refine cV ?_;refine dm ?_;refine dm ?_;refine da (cN rfl) ?_;refine da (aJ rfl rQ) ?_;refine ea 0 (aE rfl Dw oU rfl) ?_;refine dm ?_;refine da (cN rfl) ?_;refine da (aJ rfl Hl) ?_;refine ea 0 (aE rfl gY oU rfl) ?_;refine dm ?_;refine da (cN rfl) ?_;refine da (aJ rfl xg) ?_;refine ea 0 (aE rfl cJ oU rfl) ?_;obtain⟨x3,j,h⟩:=aa h;refine db (aW (t:=Ti) rfl fD cJ j) ?_;refine da (av (t:=Ti) rfl cJ rfl) ?_;refine da (rp rfl U3 QL) ?_;refine db (Ax rfl) ?_;refine db (Gj rfl) ?_;refine df eU ?_;refine ja (cN rfl) ?_;refine fl rQ ?_;refine aV rfl rfl (aS rfl Dw rfl rfl rfl) ⟨rfl,rfl,trivial⟩ ?_;refine nl ?_;exact jz ((),IntKind.u64.wrap ((IntKind.u64.wrap ((IntKind.u64.wrap (a0.2.2 * 6364136223846793005))+1442695040888963407))+(IntKind.u64.wrap ((IntKind.u64.wrap x3) * 2862933555777941757)))) h [0]
  .refine bp (ao ?_);exact jz ((),IntKind.u64.wrap ((IntKind.u64.wrap (a0.2.2 * 6364136223846793005))+1442695040888963407)) h [0]
 .
  refine sr (mq ?_);refine ja (cN rfl) ?_;refine fl xg ?_;refine lo cJ ?_;obtain⟨x4,e,h⟩:=aa h;refine jb (bg rfl e) ?_;refine ja (cN rfl) ?_;refine fl xg ?_;refine aV rfl rfl (aS rfl cJ rfl rfl rfl) ⟨rfl,rfl,trivial⟩ ?_;refine nt (am (cV ?_));refine dm ?_;refine da (cN rfl) ?_;refine da (aJ rfl rQ) ?_;refine ea 0 (aE rfl Dw oU rfl) ?_;refine dm ?_;refine da (cN rfl) ?_;refine da (aJ rfl rQ) ?_;refine ea 0 (aE rfl Dw oU rfl) ?_;refine fS rfl rfl rfl (tL rfl (by decide)) ⟨rfl,rfl,trivial⟩ ?_;refine df eU ?_;refine jb (LF rfl) ?_;refine aq (nt (sr ?_));refine mq ?_;refine jb (Ax rfl) ?_;refine aq (nt (sr ?_));iterate 2 refine mq ?_
  refine co rfl (tL rfl (by decide)) ⟨rfl,rfl,trivial⟩ ?_;refine jb (LF rfl) ?_;refine co rfl (tL rfl (by decide)) ⟨rfl,rfl,trivial⟩ ?_;refine aq (nt (aD ?_));cases h;exact aR () [_] 1 ⟨rfl,trivial⟩ rfl
def cI(k:Nat)(a0:cx)(a1:Int):Option (Int×cx):=
 if a1 < 1 then(some (0,(a0.1,a0.2.1,a0.2.2))) else((hJ k (a0.1,a0.2.1,a0.2.2)).bind λr1=>
 (ck (a1+1)).bind λx2=>
 (cM ((IntKind.u64.wrap x2)≠0)).bind λ_=>
 (ck (Int.tmod r1.1 (IntKind.u64.wrap x2))).bind λx4=>
 some (x4,(r1.2.1,r1.2.2.1,r1.2.2.2)))
theorem cS(k:Nat)(a0:cx)(c:Nat)(a1:Int)(r:Int×cx)(h:cI k a0 a1=some r):
 dB Tryz.prog 26 [Pt c,I a1] [.obj c 71 (.agg (.pair (.rep Tl a0.1) (.pair (I a0.2.1) (.eq (.int .u64 a0.2.2)))))] (λ_:Unit=>(bM [I r.1],[.obj c 71 (.agg (.pair (.rep Tl r.2.1) (.pair (I r.2.2.1) (.eq (.int .u64 r.2.2.2)))))])):=by
 unfold cI at h
 replace h:=bu h
 refine dB.of 14 Tryz.func26 rfl Tryz.ntmps26 rfl λS w0=>?_
 refine sr ?_
 refine cq ?_
 refine nt ?_
 refine am ?_
 refine sr ?_
 refine mq ?_
 refine jb (ba rfl) ?_
 refine nt ?_
 refine ci h (λh=>?_) (λh=>?_)
 .
  refine sr (cq (nt (rx ?_)));cases h;exact aR () [_] 1 ⟨rfl,trivial⟩ rfl
 .
  refine sk (sr (mq ?_));obtain⟨r1,n,h⟩:=aa h;refine ka (aA [.tmp 7] rfl rfl RL rfl (rK k (a0.1,a0.2.1,a0.2.2) c r1 n)) ?_;refine mq ?_;obtain⟨x2,j,h⟩:=aa h;refine jb (bg rfl j) ?_;refine ja (rp rfl U3 QL) ?_;obtain⟨u3,l,h⟩:=aa h;refine jb (O0 rfl (ap l)) ?_;obtain⟨x4,e,h⟩:=aa h;refine ja (yA rfl QL U3 e) ?_;refine aq (nt (aD ?_));cases h;exact aR () [_] 1 ⟨rfl,trivial⟩ rfl
def fa(k:Nat)(a0:cx)(a1:Int):Option (Bool×cx):=
 (ck (a1 - 1)).bind λx1=>
 (cI k (a0.1,a0.2.1,a0.2.2) x1).bind λr2=>
 some (decide (r2.1=0),(r2.2.1,r2.2.2.1,r2.2.2.2))
theorem jf(k:Nat)(a0:cx)(c:Nat)(a1:Int)(r:Bool×cx)(h:fa k a0 a1=some r):
 dB Tryz.prog 52 [Pt c,I a1] [.obj c 71 (.agg (.pair (.rep Tl a0.1) (.pair (I a0.2.1) (.eq (.int .u64 a0.2.2)))))] (λ_:Unit=>(bM [.eq (.bool r.1)],[.obj c 71 (.agg (.pair (.rep Tl r.2.1) (.pair (I r.2.2.1) (.eq (.int .u64 r.2.2.2)))))])):=by
 unfold fa at h
 replace h:=bu h
 refine dB.of 10 Tryz.func52 rfl Tryz.ntmps52 rfl λS w0=>?_
 refine sr ?_
 refine cq ?_
 refine nt ?_
 refine sr ?_
 iterate 2 refine mq ?_
 obtain⟨x1,e,h⟩:=aa h
 refine jb (eG rfl e) ?_
 obtain⟨r2,j,h⟩:=aa h
 have l:=cS k (a0.1,a0.2.1,a0.2.2) c x1 r2 j
 refine kb (aA [.tmp 5,.tmp 7] rfl rfl xn rfl l) ?_
 refine jb (dP rfl) ?_
 refine aq ?_
 refine nt ?_
 refine aD ?_
 cases h
 exact aR () [_] 1 ⟨rfl,trivial⟩ rfl
def iO(k:Nat)(a0:(List Int)):Option (List Int):=
 (cM (bW (length ([]:(List Int))+length a0))).bind λ_=>
 some (([]:(List Int))++a0)
theorem sP(k:Nat)(a0:(List Int))(r:(List Int))(h:iO k a0=some r):
 dB Tryz.prog 89 [.rep Tl a0] [] (λz:Value=>(bM [.eq z],[.sl z 3 Ti r])):=by
 unfold iO at h
 replace h:=bu h
 refine dB.of 6 Tryz.func89 rfl Tryz.ntmps89 rfl λS w0=>?_
 refine sr ?_
 refine cq ?_
 refine nt ?_
 refine sr ?_
 refine bi rfl rfl rfl (mK (t:=Ti) [] ([]:(List Int)) rfl rfl dD .nil rfl rfl) trivial λv1=>?_
 refine mq ?_
 obtain⟨u2,c,h⟩:=aa h
 refine eC rfl rfl rfl (cL rfl rfl dD (ap c)) ⟨rfl,rfl,trivial⟩ λv3=>?_
 refine aq ?_
 refine nt ?_
 refine aD ?_
 cases h
 exact aR v3 [.eq v3] 1 ⟨rfl,trivial⟩ rfl
def dF(k:Nat)(a0:(List (List Int))):Nat->((List (List Int))×Int)->Option (List (List Int))
 |0,_=>none
 |n+1,y3=>
  if y3.2 < (a0.length:Int) then((aQ a0 y3.2).bind λx5=>
  (iO k x5).bind λr6=>
  (cM (bW (length y3.1+length [r6]))).bind λ_=>
  (ck (y3.2+1)).bind λc=>
  dF k a0 n (y3.1++[r6],c)) else(some y3.1)
def hP(k:Nat)(a0:(List (List Int))):Option (List (List Int)):=
 ((dF k a0 k (([]:(List (List Int))),0)):Option ((List (List Int)))).bind λx1=>
 some x1
theorem rL(k:Nat)(a0:(List (List Int)))(r:(List (List Int)))(h:hP k a0=some r):
 dB Tryz.prog 53 [.rep (.slice Tl) a0] [] (λz:Value=>(bM [.eq z],[.sl z 22 Tl r])):=by
 unfold hP at h
 replace h:=bu h
 refine dB.of 20 Tryz.func53 rfl Tryz.ntmps53 rfl λS w0=>?_
 refine sr ?_
 refine cq ?_
 refine nt ?_
 refine sr ?_
 refine cq ?_
 refine nt ?_
 refine aL (Z:=Value) (α:=(List (List Int))) (λz2 x1=>[(3,.eq z2)]) (λz2 x1=>[.sl z2 22 Tl x1]) h (λK h=>?_) (λz2 x1 h=>?_)
 .
  refine sr (cq (nt (ak ?_)));refine jN (SE.nil 22 Tl) ?_;refine aK (λz4 y3=>[(0,.rep (.slice Tl) a0),(3,.eq z4),(4,I y3.2)]) (λz4 y3=>[.sl z4 22 Tl y3.1]) (dF k a0) k (.slice none 0 0) (([]:(List (List Int))),0) (λ_=>rfl) h (SE.fin [0] ⟨rfl,rfl,rfl,trivial⟩ rfl) (λn z4 y3 h=>?_);unfold dF at h;refine am (sr ?_);iterate 2 refine mq ?_
  refine ol qL ?_;refine jb (ba rfl) ?_;refine nt (ci h (λh=>?_) (λh=>?_))
  .refine sk (am (ak (ab ?_)));iterate 3 refine mq ?_
   obtain⟨x5,j,h⟩:=aa h;refine jb (aW (t:=Tl) rfl qL gY j) ?_;refine ja (av (t:=Tl) rfl gY rfl) ?_;obtain⟨r6,s,h⟩:=aa h;refine bi rfl rfl rfl (aA [.tmp 15] rfl rfl Ry rfl (sP k x5 r6 s)) ⟨rfl,trivial⟩ λv7=>?_;refine eZ (iS [16] ⟨rfl,trivial⟩) ?_;refine ja (bh (t:=Tl) [(.tmp 16,_)] [r6] rfl rfl oR (.cons rfl .rep .nil) rfl rfl) ?_;obtain⟨u8,l,h⟩:=aa h;refine eC rfl rfl rfl (cL rfl rfl oR (ap l)) ⟨rfl,rfl,trivial⟩ λv9=>?_;refine aq (aI (aZ (tn (ab ?_))));refine mq ?_;obtain⟨e,c,h⟩:=aa h;refine jb (bg rfl c) ?_;refine aq (nl ?_);exact jz (v9,(y3.1++[r6],e)) h [0]
  .refine xa ?_;exact jz (z4,y3.1) h [0]
 .
  refine sr (mq ?_);refine aq (nt (aD ?_));cases h;exact aR z2 [.eq z2] 1 ⟨rfl,trivial⟩ rfl
def fC(k:Nat)(a0:cx)(a1:Int)(a2:Int):Option (Int×cx):=
 (ck (a2 - a1)).bind λx1=>
 (cI k (a0.1,a0.2.1,a0.2.2) x1).bind λr2=>
 (ck (a1+r2.1)).bind λx3=>
 some (x3,(r2.2.1,r2.2.2.1,r2.2.2.2))
theorem iN(k:Nat)(a0:cx)(c:Nat)(a1:Int)(a2:Int)(r:Int×cx)(h:fC k a0 a1 a2=some r):
 dB Tryz.prog 57 [Pt c,I a1,I a2] [.obj c 71 (.agg (.pair (.rep Tl a0.1) (.pair (I a0.2.1) (.eq (.int .u64 a0.2.2)))))] (λ_:Unit=>(bM [I r.1],[.obj c 71 (.agg (.pair (.rep Tl r.2.1) (.pair (I r.2.2.1) (.eq (.int .u64 r.2.2.2)))))])):=by
 unfold fC at h
 replace h:=bu h
 refine dB.of 14 Tryz.func57 rfl Tryz.ntmps57 rfl λS w0=>?_
 refine sr ?_
 refine cq ?_
 refine nt ?_
 refine sr ?_
 iterate 4 refine mq ?_
 obtain⟨x1,j,h⟩:=aa h
 refine jb (eG rfl j) ?_
 obtain⟨r2,l,h⟩:=aa h
 have n:=cS k (a0.1,a0.2.1,a0.2.2) c x1 r2 l
 refine kb (aA [.tmp 8,.tmp 11] rfl rfl xn rfl n) ?_
 obtain⟨x3,e,h⟩:=aa h
 refine jb (bg rfl e) ?_
 refine aq ?_
 refine nt ?_
 refine aD ?_
 cases h
 exact aR () [_] 1 ⟨rfl,trivial⟩ rfl
def gA(k:Nat)(a0:cx)(a1:(List Int)):Option (Int×cx):=
 (ck ((a1.length:Int) - 1)).bind λx1=>
 (cI k (a0.1,a0.2.1,a0.2.2) x1).bind λr2=>
 (aQ a1 r2.1).bind λx3=>
 some (x3,(r2.2.1,r2.2.2.1,r2.2.2.2))
theorem kZ(k:Nat)(a0:cx)(c:Nat)(a1:(List Int))(r:Int×cx)(h:gA k a0 a1=some r):
 dB Tryz.prog 58 [Pt c,.rep Tl a1] [.obj c 71 (.agg (.pair (.rep Tl a0.1) (.pair (I a0.2.1) (.eq (.int .u64 a0.2.2)))))] (λ_:Unit=>(bM [I r.1],[.obj c 71 (.agg (.pair (.rep Tl r.2.1) (.pair (I r.2.2.1) (.eq (.int .u64 r.2.2.2)))))])):=by
 unfold gA at h
 replace h:=bu h
 refine dB.of 13 Tryz.func58 rfl Tryz.ntmps58 rfl λS w0=>?_
 refine sr ?_
 refine cq ?_
 refine nt ?_
 refine sr ?_
 iterate 3 refine mq ?_
 refine ol fD ?_
 obtain⟨x1,j,h⟩:=aa h
 refine jb (eG rfl j) ?_
 obtain⟨r2,l,h⟩:=aa h
 have n:=cS k (a0.1,a0.2.1,a0.2.2) c x1 r2 l
 refine kb (aA [.tmp 6,.tmp 9] rfl rfl xn rfl n) ?_
 obtain⟨x3,e,h⟩:=aa h
 refine jb (aW (t:=Ti) rfl fD cJ e) ?_
 refine ja (av (t:=Ti) rfl cJ rfl) ?_
 refine aq ?_
 refine nt ?_
 refine aD ?_
 cases h
 exact aR () [_] 1 ⟨rfl,trivial⟩ rfl
def dU(k:Nat)(a1:Int):Nat->((List Int)×Int×Int×(List Int)×Int)->Option ((List Int)×(List Int)×Int×Int)
 |0,_=>none
 |n+1,y3=>
  if y3.2.2.2.2 < a1 then((cI k (y3.1,y3.2.1,y3.2.2.1) y3.2.2.2.2).bind λr5=>
  (cM (bW (length y3.2.2.2.1+length [y3.2.2.2.2]))).bind λ_=>
  (aQ (y3.2.2.2.1++[y3.2.2.2.2]) r5.1).bind λx8=>
  (aQ (y3.2.2.2.1++[y3.2.2.2.2]) y3.2.2.2.2).bind λx9=>
  (aQ (List.set (y3.2.2.2.1++[y3.2.2.2.2]) (Int.toNat y3.2.2.2.2) x8) r5.1).bind λe=>
  (ck (y3.2.2.2.2+1)).bind λc=>
  dU k a1 n (r5.2.1,r5.2.2.1,r5.2.2.2,List.set (List.set (y3.2.2.2.1++[y3.2.2.2.2]) (Int.toNat y3.2.2.2.2) x8) (Int.toNat r5.1) y3.2.2.2.2,c)) else(some (y3.2.2.2.1,y3.1,y3.2.1,y3.2.2.1))
def gB(k:Nat)(a0:cx)(a1:Int):Option ((List Int)×cx):=
 ((dU k a1 k (a0.1,a0.2.1,a0.2.2,([]:(List Int)),0)):Option ((List Int)×(List Int)×Int×Int)).bind λx1=>
 some (x1.1,(x1.2.1,x1.2.2.1,x1.2.2.2))
theorem qC(k:Nat)(a0:cx)(c:Nat)(a1:Int)(r:(List Int)×cx)(h:gB k a0 a1=some r):
 dB Tryz.prog 90 [Pt c,I a1] [.obj c 71 (.agg (.pair (.rep Tl a0.1) (.pair (I a0.2.1) (.eq (.int .u64 a0.2.2)))))] (λ_:Unit=>(bM [.rep Tl r.1],[.obj c 71 (.agg (.pair (.rep Tl r.2.1) (.pair (I r.2.2.1) (.eq (.int .u64 r.2.2.2)))))])):=by
 unfold gB at h
 replace h:=bu h
 refine dB.of 32 Tryz.func90 rfl Tryz.ntmps90 rfl λS w0=>?_
 refine sr ?_
 refine cq ?_
 refine nt ?_
 refine sr ?_
 refine cq ?_
 refine nt ?_
 refine aL (Z:=Value) (α:=(List Int)×(List Int)×Int×Int) (λz2 x1=>[(5,.eq z2)]) (λz2 x1=>[.sl z2 3 Ti x1.1,.obj c 71 (.agg (.pair (.rep Tl x1.2.1) (.pair (I x1.2.2.1) (.eq (.int .u64 x1.2.2.2)))))]) h (λK h=>?_) (λz2 x1 h=>?_)
 .
  refine sr (cq (nt (ak ?_)));refine jN (SE.nil 3 Ti) ?_;refine aK (λz4 y3=>[(0,Pt c),(1,I a1),(5,.eq z4),(6,I y3.2.2.2.2)]) (λz4 y3=>[.obj c 71 (.agg (.pair (.rep Tl y3.1) (.pair (I y3.2.1) (.eq (.int .u64 y3.2.2.1))))),.sl z4 3 Ti y3.2.2.2.1]) (dU k a1) k (.slice none 0 0) (a0.1,a0.2.1,a0.2.2,([]:(List Int)),0) (λ_=>rfl) h (SE.fin [1,0] ⟨rfl,rfl,rfl,rfl,trivial⟩ rfl) (λn z4 y3 h=>?_);unfold dU at h;refine am (sr ?_);iterate 2 refine mq ?_
  refine jb (ba rfl) ?_;refine nt (ci h (λh=>?_) (λh=>?_))
  .refine sk (am (ak (sr ?_)));iterate 2 refine mq ?_
   obtain⟨r5,y,h⟩:=aa h;refine kb (aA [.tmp 13,.tmp 14] rfl rfl xn rfl (cS k (y3.1,y3.2.1,y3.2.2.1) c y3.2.2.2.2 r5 y)) ?_;refine aq (nt (sr ?_));iterate 2 refine mq ?_
   refine ja (bh (t:=Ti) [(.tmp 17,_)] [y3.2.2.2.2] rfl rfl dD (.cons rfl .int .nil) rfl rfl) ?_;obtain⟨u6,x,h⟩:=aa h;refine fr 1 ?_;refine eC rfl rfl rfl (cL rfl rfl dD (ap x)) ⟨rfl,rfl,trivial⟩ λv7=>?_;refine aq (nt (ab ?_));iterate 6 refine mq ?_
   obtain⟨x8,l,h⟩:=aa h;refine kb (cK (t:=Ti) rfl fD cJ l) ?_;refine ka (gJ (i:=Int.toNat r5.1) (off:=0) rfl cJ (λ_=>rfl) rfl (dG l).2.2 rfl) ?_;refine mq ?_;obtain⟨x9,j,h⟩:=aa h;refine kb (cK (t:=Ti) rfl fD cJ j) ?_;refine aV rfl rfl (gk (i:=Int.toNat y3.2.2.2.2) rfl cJ rfl (mU j) rfl .int rfl) ⟨rfl,rfl,trivial⟩ ?_;obtain⟨D,e,h⟩:=aa h;refine kb (cK (t:=Ti) rfl fD cJ e) ?_;refine aV rfl rfl (gk (i:=Int.toNat r5.1) rfl cJ rfl (mU e) rfl .int rfl) ⟨rfl,rfl,trivial⟩ ?_;refine aI (aZ (tn (ab (mq ?_))));obtain⟨u,s,h⟩:=aa h;refine jb (bg rfl s) ?_;refine aq (nl ?_);exact jz (v7,(r5.2.1,r5.2.2.1,r5.2.2.2,List.set (List.set (y3.2.2.2.1++[y3.2.2.2.2]) (Int.toNat y3.2.2.2.2) x8) (Int.toNat r5.1) y3.2.2.2.2,u)) h [1,0]
  .refine xa ?_;exact jz (z4,(y3.2.2.2.1,y3.1,y3.2.1,y3.2.2.1)) h [1,0]
 .
  refine sr (mq ?_);refine aq (nt (aD ?_));refine ce (iS [4,5,31] ⟨rfl,rfl,rfl,trivial⟩) ?_;cases h;exact aR () [_] 1 ⟨rfl,trivial⟩ rfl
def lL(k:Nat)(a0:(List Int)):Option cx:=
 some (a0,0,1)
theorem t4(k:Nat)(a0:(List Int))(r:cx)(h:lL k a0=some r):
 dB Tryz.prog 10 [.rep Tl a0] [] (λz:Nat=>(bM [Pt z],[.obj z 71 (.agg (.pair (.rep Tl r.1) (.pair (I r.2.1) (.eq (.int .u64 r.2.2)))))])):=by
 unfold lL at h
 replace h:=bu h
 refine dB.of 6 Tryz.func10 rfl Tryz.ntmps10 rfl λS w0=>?_
 refine sr ?_
 refine cq ?_
 refine nt ?_
 refine sr ?_
 refine mq ?_
 refine jb (eu [(0,.tmp 3,_),(2,.const (.int .u64 (1)),_)] rfl Q0 QV Qe (j7 ⟨rfl,rfl,trivial⟩) rfl) ?_
 refine bi rfl rfl rfl (vB rfl trivial) ⟨rfl,trivial⟩ λb1=>?_
 refine aq ?_
 refine nt ?_
 refine aD ?_
 cases h
 exact aR b1 [Pt b1] 1 ⟨rfl,trivial⟩ rfl
def fN(k:Nat)(a0:Int)(a1:Int):Option Int:=
 (cM (0≤a1)).bind λ_=>
 some (BY .u8 a0 (nT .u8 1 a1))
theorem jW(k:Nat)(a0:Int)(a1:Int)(r:Int)(h:fN k a0 a1=some r):
 dB Tryz.prog 62 [.eq (.int .u8 a0),I a1] [] (λ_:Unit=>(bM [.eq (.int .u8 r)],[])):=by
 unfold fN at h
 replace h:=bu h
 refine dB.of 9 Tryz.func62 rfl Tryz.ntmps62 rfl λS w0=>?_
 refine sr ?_
 refine cq ?_
 refine nt ?_
 refine sr ?_
 iterate 2 refine mq ?_
 obtain⟨u1,c,h⟩:=aa h
 refine jb (LG rfl (ap c)) ?_
 refine jb (Q2 rfl) ?_
 refine aq ?_
 refine nt ?_
 refine aD ?_
 cases h
 exact ra
def dE(k:Nat)(a0:Int)(a1:Int)(a2:Int):Option Bool:=
 ((if a1≤a0 then(some (decide (a0≤a2))) else(some false)):Option (Bool)).bind λx1=>
 some x1
theorem dL(k:Nat)(a0:Int)(a1:Int)(a2:Int)(r:Bool)(h:dE k a0 a1 a2=some r):
 dB Tryz.prog 71 [I a0,I a1,I a2] [] (λ_:Unit=>(bM [.eq (.bool r)],[])):=by
 unfold dE at h
 replace h:=bu h
 refine dB.of 15 Tryz.func71 rfl Tryz.ntmps71 rfl λS w0=>?_
 refine sr ?_
 refine cq ?_
 refine nt ?_
 refine aL (Z:=Unit) (α:=Bool) (λz2 x1=>[(6,.eq (.bool x1))]) (λz2 x1=>[]) h (λK h=>?_) (λz2 x1 h=>?_)
 .
  refine ab ?_;iterate 2 refine mq ?_
  refine jb (BK rfl) ?_;refine mq ?_;refine an (s:=10) rfl (λhb=>?_) (λhb=>?_)
  .replace h:=be (gV hb) h;refine gm ?_;refine gm ?_;refine gb (BK rfl) ?_;refine pt ?_;refine aq (nl ?_);exact jz ((),decide (a0≤a2)) h []
  .replace h:=aC (gW hb) h;iterate 3 refine gn ?_
   refine pf ?_;refine aq (nl ?_);exact jz ((),false) h []
 .
  refine aD ?_;cases h;exact ra
def fX(k:Nat)(a0:ae)(a1:bX):Option Int:=
 (((ck (a0.1 - 1)).bind λx5=>
 (dE k a1.1 0 x5).bind λr6=>
 if¬(r6=true) then(some true) else((dE k a1.2.1 0 (a0.2.2.2.2.1.length:Int)).bind λr7=>
 some (!r7))):Option (Bool)).bind λx3=>
 if x3=true then(some 3) else(some 0)
theorem pH(k:Nat)(a0:ae)(a1:bX)(r:Int)(h:fX k a0 a1=some r):
 dB Tryz.prog 54 [.rep ay a0,.rep bL a1] [] (λ_:Unit=>(bM [I r],[])):=by
 unfold fX at h
 replace h:=bu h
 refine dB.of 21 Tryz.func54 rfl Tryz.ntmps54 rfl λS w0=>?_
 refine sr ?_
 refine bx λb1=>?_
 refine bx λb2=>?_
 refine cq ?_
 refine nt ?_
 refine am ?_
 refine aL (Z:=Unit) (α:=Bool) (λz4 x3=>[(20,.eq (.bool x3))]) (λz4 x3=>[]) h (λK h=>?_) (λz4 x3 h=>?_)
 .
  refine ab (fl Hn ?_);refine lo cJ ?_;refine fl gC ?_;refine fr 1 ?_;refine lo cJ ?_;obtain⟨x5,c,h⟩:=aa h;refine jb (eG rfl c) ?_;obtain⟨r6,j,h⟩:=aa h;refine jc (aA [.tmp 6,.const (.int .i64 (0)),.tmp 9] rfl rfl xm rfl (dL k a1.1 0 x5 r6 j)) ?_;refine ja (iY rfl) ?_;refine mq ?_;refine an (s:=12) rfl (λhb=>?_) (λhb=>?_)
  .replace h:=be (AA hb) h;iterate 7 refine gn ?_
   refine pt (nl ?_);exact jz ((),true) h []
  .replace h:=aC (tN hb) h;refine ga (aJ rfl Hm) ?_;refine fr 1 ?_;refine lW rfl rfl rfl rfl rfl rfl (aE rfl cJ oU rfl) ⟨rfl,trivial⟩ ?_;refine ga (aJ rfl dZ) ?_;refine fr 1 ?_;refine lW rfl rfl rfl rfl rfl rfl (aE rfl jQ oU rfl) ⟨rfl,trivial⟩ ?_;refine ga (fW rfl rfl xF) ?_;obtain⟨r7,e,h⟩:=aa h;refine gc (aA [.tmp 14,.const (.int .i64 (0)),.tmp 17] rfl rfl xm rfl (dL k a1.2.1 0 (a0.2.2.2.2.1.length:Int) r7 e)) ?_;refine ga (iY rfl) ?_;refine pf (nl ?_);exact jz ((), !r7) h []
 .
  refine cv h (λh=>?_) (λh=>?_)
  .refine sr (cq (nt (rx ?_)));cases h;exact ra
  .refine sk (sr (cq (nt (aD ?_))));cases h;exact ra
def eO(k:Nat)(a0:Int)(a1:Int):Option Bool:=
 (cM (0≤a1)).bind λ_=>
 some (decide ((pM .u8 (ia .u8 a0 a1) 1)=1))
theorem gx(k:Nat)(a0:Int)(a1:Int)(r:Bool)(h:eO k a0 a1=some r):
 dB Tryz.prog 75 [.eq (.int .u8 a0),I a1] [] (λ_:Unit=>(bM [.eq (.bool r)],[])):=by
 unfold eO at h
 replace h:=bu h
 refine dB.of 10 Tryz.func75 rfl Tryz.ntmps75 rfl λS w0=>?_
 refine sr ?_
 refine cq ?_
 refine nt ?_
 refine sr ?_
 iterate 2 refine mq ?_
 obtain⟨u1,c,h⟩:=aa h
 refine jb (tL rfl (ap c)) ?_
 refine jb (O3 rfl) ?_
 refine jb (dP rfl) ?_
 refine aq ?_
 refine nt ?_
 refine aD ?_
 cases h
 exact ra
def cZ(k:Nat)(a0:ae)(x8:(List Int)):Nat->(Int×Int)->Option (Except Int Int)
 |0,_=>none
 |n+1,y9=>
  if y9.2 < (x8.length:Int) then((aQ x8 y9.2).bind λc=>
  (ck (a0.1 - 1)).bind λh=>
  (dE k c 0 h).bind λr=>
  if¬(r=true) then(some (.error 3)) else((eO k y9.1 c).bind λl=>
  if l=true then(some (.error 4)) else((fN k y9.1 c).bind λj=>
  (ck (y9.2+1)).bind λe=>
  cZ k a0 x8 n (j,e)))) else(some (.ok y9.1))
def c6(k:Nat)(a0:ae)(a1:(List (List Int))):Nat->(Int×Int)->Option (Except Int Unit)
 |0,_=>none
 |n+1,y4=>
  if y4.2 < (a1.length:Int) then(bE (α:=Int) ((aQ a1 y4.2).bind λx8=>
  cZ k a0 x8 k (y4.1,0)) (λe=>some (.error e)) λx6=>
  (ck (y4.2+1)).bind λc=>
  c6 k a0 a1 n (x6,c)) else(some (.ok ()))
def iL(k:Nat)(a0:ae)(a1:(List (List Int))):Option Int:=
 if 3 < (a1.length:Int) then(some 6) else(bE (α:=Unit) (c6 k a0 a1 k (0,0)) (some) λ_=>
 some 0)
theorem sM(k:Nat)(a0:ae)(a1:(List (List Int)))(r:Int)(h:iL k a0 a1=some r):
 dB Tryz.prog 101 [.rep ay a0,.rep (.slice Tl) a1] [] (λ_:Unit=>(bM [I r],[])):=by
 unfold iL at h
 replace h:=bu h
 refine dB.of 39 Tryz.func101 rfl Tryz.ntmps101 rfl λS w0=>?_
 refine sr ?_
 refine bx λb1=>?_
 refine cq ?_
 refine nt ?_
 refine am ?_
 refine sr ?_
 refine mq ?_
 refine ol qL ?_
 refine jb (mf rfl) ?_
 refine nt ?_
 refine ci h (λh=>?_) (λh=>?_)
 .
  refine sr (cq (nt (rx ?_)));cases h;exact ra
 .
  refine sk (sr (cq (nt ?_)));refine dq (Z:=Unit) (α:=Unit) (λz3 x2=>[]) (λz3 x2=>[]) (λe=>e=r) h (λe h=>Option.some.inj h) (λK hR h=>?_) (λz3 x2 h=>?_)
  .refine sr (mq ?_);refine ol qL ?_;refine ff rfl ?_;refine nt (ak (aK (λz5 y4=>[(2,Pt b1),(5,.eq (.int .u8 y4.1)),(13,.rep (.slice Tl) a1),(14,I (a1.length:Int)),(15,I y4.2)]) (λz5 y4=>[.obj b1 26 (.rep ay a0)]) (c6 k a0 a1) k () (0,0) (λ_=>rfl) h (SE.fin [0] ⟨rfl,rfl,rfl,rfl,rfl,trivial⟩ rfl) (λn z5 y4 h=>?_)));unfold c6 at h;refine sr (jb (ba rfl) ?_);refine nt (am (ci h (λh=>?_) (λh=>?_)))
   .refine sk (dq (Z:=Unit) (α:=Int) (λz7 x6=>[(2,Pt b1),(5,.eq (.int .u8 x6)),(13,.rep (.slice Tl) a1),(14,I (a1.length:Int)),(15,I y4.2)]) (λz7 x6=>[.obj b1 26 (.rep ay a0)]) (λe=>e=r) h (λe h=>hR e h) (λK hR h=>?_) (λz7 x6 h=>?_))
    .refine ak (sr ?_);obtain⟨x8,X,h⟩:=aa h;refine jb (aW (t:=Tl) rfl qL gY X) ?_;refine ja (av (t:=Tl) rfl gY rfl) ?_;refine aq (nt (sr ?_));refine mq ?_;refine ol fD ?_;refine ff rfl ?_;refine nt (ak (aK (λj y9=>[(2,Pt b1),(5,.eq (.int .u8 y9.1)),(13,.rep (.slice Tl) a1),(14,I (a1.length:Int)),(15,I y4.2),(19,.rep Tl x8),(20,I (x8.length:Int)),(21,I y9.2)]) (λj y9=>[.obj b1 26 (.rep ay a0)]) (cZ k a0 x8) k () (y4.1,0) (λ_=>rfl) h (SE.fin [0] ⟨rfl,rfl,rfl,rfl,rfl,rfl,rfl,rfl,trivial⟩ rfl) (λn j y9 h=>?_)));unfold cZ at h;refine sr (jb (ba rfl) ?_);refine nt (am (ci h (λh=>?_) (λh=>?_)))
     .refine sk (am (ak (sr ?_)));obtain⟨c,y,h⟩:=aa h;refine jb (aW (t:=Ti) rfl fD cJ y) ?_;refine ja (av (t:=Ti) rfl cJ rfl) ?_;refine aq (nt (am (sr ?_)));refine mq ?_;refine fl gC ?_;refine lo cJ ?_;obtain⟨O,x,h⟩:=aa h;refine jb (eG rfl x) ?_;obtain⟨U,F,h⟩:=aa h;refine jc (aA [.tmp 25,.const (.int .i64 (0)),.tmp 28] rfl rfl xm rfl (dL k c 0 O U F)) ?_;refine ja (iY rfl) ?_;refine nt (cw h (λh=>?_) (λh=>?_))
      .refine sr (cq (nt (rx (br (bD (br (bD (bG ?_))))))));obtain rfl:=hR _ h;exact ra
      .refine sk (am (sr ?_));iterate 2 refine mq ?_
       obtain⟨Q,E,h⟩:=aa h;refine jb (aA [.tmp 31,.tmp 32] rfl rfl Ht rfl (gx k y9.1 c Q E)) ?_;refine nt (cv h (λh=>?_) (λh=>?_))
       .refine sr (cq (nt (rx (br (bD (br (bD (bG ?_))))))));obtain rfl:=hR _ h;exact ra
       .refine sk (ab ?_);iterate 2 refine mq ?_
        obtain⟨l,D,h⟩:=aa h;refine jb (aA [.tmp 34,.tmp 35] rfl rfl NH rfl (jW k y9.1 c l D)) ?_;refine aq (aI (aZ (tn (ab ?_))));obtain⟨M,u,h⟩:=aa h;refine jb (bg rfl u) ?_;refine mq (nl ?_);exact jz ((),(l,M)) h [0]
     .refine fg (bK (bK (cX (bn ?_))));exact jz ((),y9.1) h [0]
    .refine ab ?_;obtain⟨J,s,h⟩:=aa h;refine jb (bg rfl s) ?_;refine mq (nl ?_);exact jz ((),(x6,J)) h [0]
   .refine xa ?_;exact jz ((),()) h []
  .refine sr (cq (nt (aD ?_)));cases h;exact ra
def eT(k:Nat)(a0:ae):Nat->Int->Option (Except Int Unit)
 |0,_=>none
 |n+1,c=>
  if c < (a0.2.2.2.2.1.length:Int) then((aQ a0.2.2.2.2.1 c).bind λj=>
  (iL k a0 j).bind λe=>
  if¬(e=0) then(some (.error e)) else((ck (c+1)).bind λh=>
  eT k a0 n h)) else(some (.ok ()))
def eS(k:Nat)(a0:ae):Nat->Int->Option (Except Int Unit)
 |0,_=>none
 |n+1,c=>
  if c < (a0.2.2.2.2.2.length:Int) then((aQ a0.2.2.2.2.2 c).bind λj=>
  (fX k a0 j).bind λe=>
  if¬(e=0) then(some (.error e)) else((ck (c+1)).bind λh=>
  eS k a0 n h)) else(some (.ok ()))
def mj(k:Nat)(a0:ae):Option Int:=
 (((dE k a0.1 1 5).bind λr4=>
 if¬(r4=true) then(some true) else((dE k a0.2.1 0 3).bind λr5=>
 if¬(r5=true) then(some true) else((dE k a0.2.2.1 0 3).bind λr6=>
 if¬(r6=true) then(some true) else((dE k a0.2.2.2.1 1 3).bind λr7=>
 some (!r7))))):Option (Bool)).bind λx2=>
 if x2=true then(some 1) else(if(a0.2.2.2.2.1.length:Int) < 1 then(some 7) else(if 6 < (a0.2.2.2.2.1.length:Int) then(some 6) else(bE (α:=Unit) (eT k a0 k 0) (some) λ_=>
 if 8 < (a0.2.2.2.2.2.length:Int) then(some 6) else(bE (α:=Unit) (eS k a0 k 0) (some) λ_=>
 some 0))))
theorem wT(k:Nat)(a0:ae)(r:Int)(h:mj k a0=some r):
 dB Tryz.prog 70 [.rep ay a0] [] (λ_:Unit=>(bM [I r],[])):=by
 unfold mj at h
 replace h:=bu h
 refine dB.of 73 Tryz.func70 rfl Tryz.ntmps70 rfl λS w0=>?_
 refine sr ?_
 refine bx λb1=>?_
 refine cq ?_
 refine nt ?_
 refine am ?_
 refine aL (Z:=Unit) (α:=Bool) (λz3 x2=>[(1,Pt b1),(31,.eq (.bool x2))]) (λz3 x2=>[.obj b1 26 (.rep ay a0)]) h (λK h=>?_) (λz3 x2 h=>?_)
 .
  refine ab (fl gC ?_);refine lo cJ ?_;obtain⟨r4,TK,h⟩:=aa h;refine jc (aA [.tmp 11,.const (.int .i64 (1)),.const (.int .i64 (5))] rfl rfl xm rfl (dL k a0.1 1 5 r4 TK)) ?_;refine ja (iY rfl) ?_;refine mq ?_;refine an (s:=14) rfl (λhb=>?_) (λhb=>?_)
  .replace h:=be (AA hb) h;iterate 4 refine gn ?_
   refine pt ?_;refine mq ?_;iterate 4 refine gn ?_
   refine pt ?_;refine mq ?_;iterate 4 refine gn ?_
   refine pt (nl ?_);exact jz ((),true) h [0]
  .replace h:=aC (tN hb) h;refine ga (aJ rfl AZ) ?_;refine lW rfl rfl rfl rfl rfl rfl (aE rfl cJ oU rfl) ⟨rfl,trivial⟩ ?_;obtain⟨r5,zz,h⟩:=aa h;refine gc (aA [.tmp 16,.const (.int .i64 (0)),.const (.int .i64 (3))] rfl rfl xm rfl (dL k a0.2.1 0 3 r5 zz)) ?_;refine ga (iY rfl) ?_;refine pf ?_;refine mq ?_;refine an (s:=20) rfl (λhb=>?_) (λhb=>?_)
   .replace h:=be (AA hb) h;iterate 4 refine gn ?_
    refine pt ?_;refine mq ?_;iterate 4 refine gn ?_
    refine pt (nl ?_);exact jz ((),true) h [0]
   .replace h:=aC (tN hb) h;refine ga (aJ rfl xi) ?_;refine lW rfl rfl rfl rfl rfl rfl (aE rfl cJ oU rfl) ⟨rfl,trivial⟩ ?_;obtain⟨r6,qt,h⟩:=aa h;refine gc (aA [.tmp 22,.const (.int .i64 (0)),.const (.int .i64 (3))] rfl rfl xm rfl (dL k a0.2.2.1 0 3 r6 qt)) ?_;refine ga (iY rfl) ?_;refine pf ?_;refine mq ?_;refine an (s:=26) rfl (λhb=>?_) (λhb=>?_)
    .replace h:=be (AA hb) h;iterate 4 refine gn ?_
     refine pt (nl ?_);exact jz ((),true) h [0]
    .replace h:=aC (tN hb) h;refine ga (aJ rfl ud) ?_;refine lW rfl rfl rfl rfl rfl rfl (aE rfl cJ oU rfl) ⟨rfl,trivial⟩ ?_;obtain⟨r7,mw,h⟩:=aa h;refine gc (aA [.tmp 28,.const (.int .i64 (1)),.const (.int .i64 (3))] rfl rfl xm rfl (dL k a0.2.2.2.1 1 3 r7 mw)) ?_;refine ga (iY rfl) ?_;refine pf (nl ?_);exact jz ((), !r7) h [0]
 .
  refine cv h (λh=>?_) (λh=>?_)
  .refine sr (cq (nt (rx ?_)));cases h;exact ra
  .refine sk (am (sr (fl dZ ?_)));refine lo jQ ?_;refine ol xF ?_;refine aq (nt (ak (sr ?_)));refine mq ?_;refine jb (ba rfl) ?_;refine aq (nt ?_);refine ci h (λh=>?_) (λh=>?_)
   .refine sr (cq (nt (aD (bD (bG ?_)))));cases h;exact ra
   .refine sr (mq ?_);refine jb (mf rfl) ?_;refine aq (nt ?_);refine ci h (λh=>?_) (λh=>?_)
    .refine sr (cq (nt (aD (bD (bG ?_)))));cases h;exact ra
    .refine bp (aZ (tn (dq (Z:=Unit) (α:=Unit) (λz9 x8=>[(1,Pt b1)]) (λz9 x8=>[.obj b1 26 (.rep ay a0)]) (λe=>e=r) h (λe h=>Option.some.inj h) (λK hR h=>?_) (λz9 x8 h=>?_))))
     .refine sr (fl dZ ?_);refine lo jQ ?_;refine ol xF ?_;refine ff rfl ?_;refine nt (ak (aK (λx j=>[(1,Pt b1),(42,.rep (.slice (.slice Tl)) a0.2.2.2.2.1),(43,I (a0.2.2.2.2.1.length:Int)),(44,I j)]) (λx j=>[.obj b1 26 (.rep ay a0)]) (eT k a0) k () 0 (λ_=>rfl) h (SE.fin [0] ⟨rfl,rfl,rfl,rfl,trivial⟩ rfl) (λn x j h=>?_)));unfold eT at h;refine sr (jb (ba rfl) ?_);refine nt (am (ci h (λh=>?_) (λh=>?_)))
      .refine sk (am (ak (sr ?_)));obtain⟨Y,J,h⟩:=aa h;refine jb (aW (t:=(.slice Tl)) rfl xF sG J) ?_;refine ja (av (t:=(.slice Tl)) rfl sG rfl) ?_;refine aq (nt (sr ?_));refine lo jP ?_;refine mq ?_;obtain⟨mc,O,h⟩:=aa h;refine jb (aA [.tmp 48,.tmp 49] rfl rfl P9 rfl (sM k a0 Y mc O)) ?_;refine aq (nt (sr ?_));refine mq ?_;refine jb (cG rfl) ?_;refine nt (cn h (λh=>?_) (λh=>?_))
       .refine sr (mq ?_);refine aq (nt (aD (br (bD (bG ?_)))));obtain rfl:=hR _ h;exact ra
       .refine bp (aZ (tn (ab ?_)));obtain⟨X,F,h⟩:=aa h;refine jb (bg rfl F) ?_;refine mq (nl ?_);exact jz ((),X) h [0]
      .refine xa ?_;exact jz ((),()) h [0]
     .refine am (sr (fl xh ?_));refine lo IW ?_;refine ol Qj ?_;refine jb (mf rfl) ?_;refine nt (ci h (λh=>?_) (λh=>?_))
      .refine sr (cq (nt (rx ?_)));cases h;exact ra
      .refine sk (dq (Z:=Unit) (α:=Unit) (λu y=>[]) (λu y=>[]) (λe=>e=r) h (λe h=>Option.some.inj h) (λK hR h=>?_) (λu y h=>?_))
       .refine sr (fl xh ?_);refine lo IW ?_;refine ol Qj ?_;refine ff rfl ?_;refine nt (ak (aK (λl c=>[(1,Pt b1),(60,Rs bL a0.2.2.2.2.2),(61,I (a0.2.2.2.2.2.length:Int)),(62,I c)]) (λl c=>[.obj b1 26 (.rep ay a0)]) (eS k a0) k () 0 (λ_=>rfl) h (SE.fin [0] ⟨rfl,rfl,rfl,rfl,trivial⟩ rfl) (λn l c h=>?_)));unfold eS at h;refine sr (jb (ba rfl) ?_);refine nt (am (ci h (λh=>?_) (λh=>?_)))
        .refine sk (am (ak (sr ?_)));obtain⟨U,E,h⟩:=aa h;refine jb (aW (t:=bL) rfl Qj wy E) ?_;refine ja (av (t:=bL) rfl wy rfl) ?_;refine bi rfl rfl rfl (bJ rfl IC N3) trivial λTL=>?_;refine aV rfl rfl (aS rfl wy rfl rfl rfl) ⟨rfl,rfl,trivial⟩ ?_;refine nt (sr (fr 1 ?_));refine lo jP ?_;refine fr 1 ?_;refine lo wy ?_;obtain⟨gw,M,h⟩:=aa h;refine jb (aA [.tmp 66,.tmp 67] rfl rfl RO rfl (pH k a0 U gw M)) ?_;refine aq (nt (sr ?_));refine mq ?_;refine jb (cG rfl) ?_;refine nt (cn h (λh=>?_) (λh=>?_))
         .refine sr (mq ?_);refine aq (nt (aD (br (bD (bG ?_)))));obtain rfl:=hR _ h;exact ra
         .refine bp (aZ (tn (ab ?_)));obtain⟨Q,D,h⟩:=aa h;refine jb (bg rfl D) ?_;refine mq (nl ?_);exact jz ((),Q) h [1]
        .refine xa ?_;exact jz ((),()) h []
       .refine sr (cq (nt (aD ?_)));cases h;exact ra
def cE(k:Nat)(a0:ae)(a1:Int):Nat->((List Int)×Int)->Option (List Int)
 |0,_=>none
 |n+1,y5=>
  if y5.2 < 5 then((((cM (0≤y5.2/\y5.2 < 5)).bind λ_=>
  (eO k a1 y5.2).bind λe=>
  if e=true then((cM (0≤y5.2/\y5.2 < 5)).bind λ_=>
  some (List.set (List.set y5.1 (Int.toNat y5.2) (-1:Int)) (Int.toNat y5.2) a0.2.1)) else(some (List.set y5.1 (Int.toNat y5.2) (-1:Int)))):Option ((List Int))).bind λx7=>
  (ck (y5.2+1)).bind λc=>
  cE k a0 a1 n (x7,c)) else(some y5.1)
def eK(k:Nat)(a0:ae)(a1:Int):Option (List Int):=
 ((cE k a0 a1 k ([0,0,0,0,0],0)):Option ((List Int))).bind λx3=>
 some x3
theorem pD{M:Md Tryz.prog}{bm:Nat}{c0 c1 c2 c3 c4 c5:Value}(hK:Kn M bm 0 [c0,c1,c2,c3,c4,c5])(k:Nat)(a0:ae)(a1:Int)(r:(List Int))(h:eK k a0 a1=some r):
 bY M 78 [.rep (.mo (Pv bm) [c0,c1,c2,c3,c4,c5] ay) a0,.eq (.int .u8 a1)] [] (λ_:Unit=>(bM [.rep Tr r],[])):=by
 unfold eK at h
 replace h:=bu h
 refine bY.of 24 Tryz.func78 rfl Tryz.ntmps78 rfl λS w0=>?_
 refine sr ?_
 refine bi rfl rfl rfl (bJ rfl IA KL) trivial λb1=>?_
 refine nt ?_
 refine sr ?_
 refine bi rfl rfl rfl (bJ rfl IA KL) trivial λb2=>?_
 refine nt ?_
 refine aL (Z:=Unit) (α:=(List Int)) (λz4 x3=>[(4,Pt b1),(5,Pt b2)]) (λz4 x3=>[.obj b1 80 (.rep Tr [0,0,0,0,0]),.obj b2 80 (.rep Tr x3)]) h (λK h=>?_) (λz4 x3 h=>?_)
 .
  refine sr (ff rfl ?_);refine nt (ak (aK (λz6 y5=>[(0,.rep (.mo (Pv bm) [c0,c1,c2,c3,c4,c5] ay) a0),(1,.eq (.int .u8 a1)),(4,Pt b1),(5,Pt b2),(7,I y5.2)]) (λz6 y5=>[.obj b1 80 (.rep Tr [0,0,0,0,0]),.obj b2 80 (.rep Tr y5.1)]) (cE k a0 a1) k () ([0,0,0,0,0],0) (λ_=>rfl) h (SE.fin [1,0] ⟨rfl,rfl,rfl,rfl,rfl,trivial⟩ rfl) (λn z6 y5 h=>?_)));unfold cE at h;refine sr (jb (ba rfl) ?_);refine nt (am (ci h (λh=>?_) (λh=>?_)))
  .refine sk (aL (Z:=Unit) (α:=(List Int)) (λz8 x7=>[(0,.rep (.mo (Pv bm) [c0,c1,c2,c3,c4,c5] ay) a0),(1,.eq (.int .u8 a1)),(4,Pt b1),(5,Pt b2),(7,I y5.2)]) (λz8 x7=>[.obj b1 80 (.rep Tr [0,0,0,0,0]),.obj b2 80 (.rep Tr x7)]) h (λK h=>?_) (λz8 x7 h=>?_))
   .refine ak (sr (mq ?_));refine aq (nt (sr ?_));refine mq ?_;obtain⟨u9,e,h⟩:=aa h;refine jb (dO rfl Bm cJ (ap e).1 (ap e).2) ?_;refine fr 1 ?_;refine aV rfl rfl (gp (t:=Ti) (off:=0) (i:=y5.2) (N:=5) rfl cJ .int rfl rfl rfl rfl (ap e).1 (ap e).2 rfl) ⟨rfl,rfl,trivial⟩ ?_;refine nt (sr ?_);iterate 2 refine mq ?_
    obtain⟨u,l,h⟩:=aa h;refine jb (aA [.tmp 12,.tmp 13] rfl rfl Ht rfl (gx k a1 y5.2 u l)) ?_;refine nt (cv h (λh=>?_) (λh=>?_))
    .refine ab ?_;iterate 2 refine mq ?_
     refine ja (kT rfl) ?_;refine ja (gr rfl gQ) ?_;refine ja (ip 1 false rfl AZ rfl rfl) ?_;refine ja (i7 (t:=Ti) rfl cJ (hK.sub 1 1 rfl (le_of_ble_eq_true rfl)) rfl rfl) ?_;obtain⟨x,c,h⟩:=aa h;refine jb (dO rfl Bm cJ (ap c).1 (ap c).2) ?_;refine aV rfl rfl (gp (t:=Ti) (off:=0) (i:=y5.2) (N:=5) rfl cJ .int rfl rfl rfl rfl (ap c).1 (ap c).2 rfl) ⟨rfl,rfl,trivial⟩ ?_;refine aI (bn ?_);exact jz ((),List.set (List.set y5.1 (Int.toNat y5.2) (-1:Int)) (Int.toNat y5.2) a0.2.1) h [1,0]
    .refine bp (bn ?_);exact jz ((),List.set y5.1 (Int.toNat y5.2) (-1:Int)) h [1,0]
   .refine ab ?_;obtain⟨s,j,h⟩:=aa h;refine jb (bg rfl j) ?_;refine mq (nl ?_);exact jz ((),(x7,s)) h [0,1]
  .refine xa ?_;exact jz ((),y5.1) h [0,1]
 .
  refine sr (fr 1 ?_);refine lo iV ?_;refine fr 1 ?_;refine aV rfl rfl (aS rfl iV rfl rfl rfl) ⟨rfl,rfl,trivial⟩ ?_;refine nt (aD ?_);obtain rfl:=Option.some.inj h;exact aR () [.rep Tr x3] 0 ⟨⟨_,_,_,_,_,rfl,(.head _),iV,(vE),rfl⟩,trivial⟩ rfl
def dc(k:Nat)(a0:(List Int))(a1:Int):Nat->Int->Option (Except Int Unit)
 |0,_=>none
 |n+1,y3=>
  if y3 < (a0.length:Int) then((aQ a0 y3).bind λx5=>
  if a1=x5 then(some (.error y3)) else((ck (y3+1)).bind λx6=>
  dc k a0 a1 n x6)) else(some (.ok ()))
def f6(k:Nat)(a0:(List Int))(a1:Int):Option Int:=
 bE (α:=Unit) (dc k a0 a1 k 0) (some) λ_=>
 some (-1:Int)
theorem l8(k:Nat)(a0:(List Int))(a1:Int)(r:Int)(h:f6 k a0 a1=some r):
 dB Tryz.prog 82 [.rep Tl a0,I a1] [] (λ_:Unit=>(bM [I r],[])):=by
 unfold f6 at h
 replace h:=bu h
 refine dB.of 19 Tryz.func82 rfl Tryz.ntmps82 rfl λS w0=>?_
 refine sr ?_
 refine cq ?_
 refine nt ?_
 refine dq (Z:=Unit) (α:=Unit) (λz2 x1=>[]) (λz2 x1=>[]) (λe=>e=r) h (λe h=>Option.some.inj h) (λK hR h=>?_) (λz2 x1 h=>?_)
 .
  refine sr (mq ?_);refine ol fD ?_;refine ff rfl ?_;refine nt (ak (aK (λz4 y3=>[(0,.rep Tl a0),(1,I a1),(7,I (a0.length:Int)),(8,I y3)]) (λz4 y3=>[]) (dc k a0 a1) k () 0 (λ_=>rfl) h (SE.fin [] ⟨rfl,rfl,rfl,rfl,trivial⟩ rfl) (λn z4 y3 h=>?_)));unfold dc at h;refine sr (jb (ba rfl) ?_);refine nt (am (ci h (λh=>?_) (λh=>?_)))
  .refine sk (am (ak (sr (mq ?_))));refine aq (nt (sr ?_));iterate 3 refine mq ?_
   obtain⟨x5,j,h⟩:=aa h;refine jb (aW (t:=Ti) rfl fD cJ j) ?_;refine ja (av (t:=Ti) rfl cJ rfl) ?_;refine jb (dP rfl) ?_;refine nt (ci h (λh=>?_) (λh=>?_))
   .refine sr (mq ?_);refine aq (nt (aD (br (bD (bG ?_)))));obtain rfl:=hR _ h;exact ra
   .refine bp (aZ (tn (ab ?_)));obtain⟨x6,c,h⟩:=aa h;refine jb (bg rfl c) ?_;refine mq (nl ?_);exact jz ((),x6) h []
  .refine xa ?_;exact jz ((),()) h []
 .
  refine sr (cq (nt (aD ?_)));cases h;exact ra
def kG(k:Nat)(a0:Int):Option Bool:=
 some (!decide (a0=a0))
theorem qH(k:Nat)(a0:Int)(r:Bool)(h:kG k a0=some r):
 dB Tryz.prog 172 [I a0] [] (λ_:Unit=>(bM [.eq (.bool r)],[])):=by
 unfold kG at h
 replace h:=bu h
 refine dB.of 6 Tryz.func172 rfl Tryz.ntmps172 rfl λS w0=>?_
 refine sr ?_
 refine cq ?_
 refine nt ?_
 refine sr ?_
 iterate 2 refine mq ?_
 refine jb (cG rfl) ?_
 refine aq ?_
 refine nt ?_
 refine aD ?_
 cases h
 exact ra
def nX(k:Nat)(a0:Int)(a1:Int):Option Bool:=
 (((kG k a0).bind λr3=>
 if r3=true then((kG k a1).bind λr4=>
 if¬(r4=true) then(some true) else(some (decide (a0 < a1)))) else(some (decide (a0 < a1)))):Option (Bool)).bind λx1=>
 some x1
theorem zn(k:Nat)(a0:Int)(a1:Int)(r:Bool)(h:nX k a0 a1=some r):
 dB Tryz.prog 162 [I a0,I a1] [] (λ_:Unit=>(bM [.eq (.bool r)],[])):=by
 unfold nX at h
 replace h:=bu h
 refine dB.of 17 Tryz.func162 rfl Tryz.ntmps162 rfl λS w0=>?_
 refine sr ?_
 refine cq ?_
 refine nt ?_
 refine aL (Z:=Unit) (α:=Bool) (λz2 x1=>[(4,.eq (.bool x1))]) (λz2 x1=>[]) h (λK h=>?_) (λz2 x1 h=>?_)
 .
  refine ab (mq ?_);obtain⟨r3,e,h⟩:=aa h;refine ja (aA [.tmp 5] rfl rfl LJ rfl (qH k a0 r3 e)) ?_;refine mq ?_;refine an (s:=7) rfl (λhb=>?_) (λhb=>?_)
  .replace h:=be (o0 hb) h;refine gm ?_;obtain⟨r4,c,h⟩:=aa h;refine ga (aA [.tmp 8] rfl rfl LJ rfl (qH k a1 r4 c)) ?_;refine ga (iY rfl) ?_;refine pt ?_;refine mq ?_;refine an (s:=12) rfl (λhb=>?_) (λhb=>?_)
   .replace h:=be (AA hb) h;iterate 3 refine gn ?_
    refine pt ?_;refine aq (nl ?_);exact jz ((),true) h []
   .replace h:=aC (tN hb) h;refine gm ?_;refine gm ?_;refine gb (ba rfl) ?_;refine pf ?_;refine aq (nl ?_);exact jz ((),decide (a0 < a1)) h []
  .replace h:=aC (o5 hb) h;iterate 3 refine gn ?_
   refine pf ?_;refine mq ?_;refine gm ?_;refine gm ?_;refine gb (ba rfl) ?_;refine pf ?_;refine aq (nl ?_);exact jz ((),decide (a0 < a1)) h []
 .
  refine aD ?_;cases h;exact ra
def bF(k:Nat)(a1:Int):Nat->((List Int)×Int)->Option (List Int)
 |0,_=>none
 |n+1,y6=>
  ((if a1 < y6.2 then((aQ y6.1 y6.2).bind λu=>
  (ck (y6.2 - 1)).bind λs=>
  (aQ y6.1 s).bind λr=>
  (nX k u r).bind λx=>
  some x) else(some false)):Option (Bool)).bind λx8=>
  if x8=true then((ck (y6.2 - 1)).bind λe=>
  (ck (y6.2 - 1)).bind λl=>
  (aQ y6.1 l).bind λc=>
  (aQ y6.1 y6.2).bind λj=>
  (aQ y6.1 y6.2).bind λD=>
  (aQ (List.set y6.1 (Int.toNat y6.2) c) e).bind λy=>
  (ck (y6.2 - 1)).bind λh=>
  bF k a1 n (List.set (List.set y6.1 (Int.toNat y6.2) c) (Int.toNat e) j,h)) else(some y6.1)
def bf(k:Nat)(a1:Int)(a2:Int):Nat->((List Int)×Int)->Option (List Int)
 |0,_=>none
 |n+1,y2=>
  if y2.2 < a2 then(((bF k a1 k (y2.1,y2.2)):Option ((List Int))).bind λx4=>
  (ck (y2.2+1)).bind λc=>
  bf k a1 a2 n (x4,c)) else(some y2.1)
def bU(k:Nat)(a0:(List Int))(a1:Int)(a2:Int):Option (List Int):=
 (ck (a1+1)).bind λx1=>
 bf k a1 a2 k (a0,x1)
theorem iW(k:Nat)(a0:(List Int))(c:Value)(a1:Int)(a2:Int)(r:(List Int))(h:bU k a0 a1 a2=some r):
 dB Tryz.prog 156 [.eq c,I a1,I a2] [.sl c 3 Ti a0] (λ_:Unit=>(bM [],[.sl c 3 Ti r])):=by
 unfold bU at h
 replace h:=bu h
 refine dB.of 49 Tryz.func156 rfl Tryz.ntmps156 rfl λS w0=>?_
 refine sr ?_
 refine mq ?_
 obtain⟨x1,T9,h⟩:=aa h
 refine jb (bg rfl T9) ?_
 refine aq ?_
 refine nt ?_
 refine ak ?_
 refine aK (λz3 y2=>[(0,.eq c),(1,I a1),(2,I a2),(6,I y2.2)]) (λz3 y2=>[.sl c 3 Ti y2.1]) (bf k a1 a2) k () (a0,x1) (λ_=>rfl) h (SE.fin [0] ⟨rfl,rfl,rfl,rfl,trivial⟩ rfl) (λn z3 y2 h=>?_)
 unfold bf at h
 refine am ?_
 refine sr ?_
 iterate 2 refine mq ?_
 refine jb (ba rfl) ?_
 refine nt ?_
 refine ci h (λh=>?_) (λh=>?_)
 .
  refine sk (aL (Z:=Unit) (α:=(List Int)) (λz5 x4=>[(0,.eq c),(1,I a1),(2,I a2),(6,I y2.2)]) (λz5 x4=>[.sl c 3 Ti x4]) h (λK h=>?_) (λz5 x4 h=>?_))
  .refine ak (sr (mq ?_));refine aq (nt (ak ?_));refine aK (λz7 y6=>[(0,.eq c),(1,I a1),(2,I a2),(6,I y2.2),(7,I y6.2)]) (λz7 y6=>[.sl c 3 Ti y6.1]) (bF k a1) k () (y2.1,y2.2) (λ_=>rfl) h (SE.fin [0] ⟨rfl,rfl,rfl,rfl,rfl,trivial⟩ rfl) (λn z7 y6 h=>?_);unfold bF at h;refine am (aL (Z:=Unit) (α:=Bool) (λz9 x8=>[(0,.eq c),(1,I a1),(2,I a2),(6,I y2.2),(7,I y6.2),(30,.eq (.bool x8))]) (λz9 x8=>[.sl c 3 Ti y6.1]) h (λK h=>?_) (λz9 x8 h=>?_))
   .refine cV ?_;refine dm ?_;refine dm ?_;refine db (mf rfl) ?_;refine xO rfl rfl rfl (bS rfl) ⟨rfl,trivial⟩ (λhb=>?_) (λhb=>?_)
    .replace h:=be (gV hb) h;refine dW rfl rfl rfl rfl rfl (bS rfl) ⟨rfl,rfl,trivial⟩ ?_;refine dW rfl rfl rfl rfl rfl (bS rfl) ⟨rfl,rfl,trivial⟩ ?_;obtain⟨TP,x,h⟩:=aa h;refine kA 0 rfl rfl rfl rfl rfl rfl (cK (t:=Ti) rfl fD cJ x) ⟨rfl,rfl,rfl,trivial⟩ ?_;refine kA 0 rfl rfl rfl rfl rfl rfl (gJ (i:=Int.toNat y6.2) (off:=0) rfl cJ (λ_=>rfl) rfl (dG x).2.2 rfl) ⟨rfl,rfl,trivial⟩ ?_;refine dW rfl rfl rfl rfl rfl (bS rfl) ⟨rfl,rfl,trivial⟩ ?_;refine dW rfl rfl rfl rfl rfl (bS rfl) ⟨rfl,rfl,trivial⟩ ?_;obtain⟨TO,qt,h⟩:=aa h;refine dW rfl rfl rfl rfl rfl (eG rfl qt) ⟨rfl,rfl,rfl,trivial⟩ ?_;obtain⟨TN,u,h⟩:=aa h;refine kA 0 rfl rfl rfl rfl rfl rfl (cK (t:=Ti) rfl fD cJ u) ⟨rfl,rfl,rfl,trivial⟩ ?_;refine kA 0 rfl rfl rfl rfl rfl rfl (gJ (i:=Int.toNat TO) (off:=0) rfl cJ (λ_=>rfl) rfl (dG u).2.2 rfl) ⟨rfl,rfl,trivial⟩ ?_;refine df eU ?_;obtain⟨F,zz,h⟩:=aa h;refine gb (aA [.tmp 23,.tmp 28] rfl rfl PY rfl (zn k TP TN F zz)) ?_;refine pt (nl ?_);exact jz ((),F) h [0]
    .replace h:=aC (gW hb) h;iterate 9 refine dg ?_
     refine df eU ?_;refine gn ?_;refine pf (nl ?_);exact jz ((),false) h [0]
   .refine cv h (λh=>?_) (λh=>?_)
    .refine sk (am (ak (qP ?_)));refine cH rfl rfl rfl (bS rfl) ⟨rfl,trivial⟩ ?_;refine cH rfl rfl rfl (bS rfl) ⟨rfl,trivial⟩ ?_;refine cH rfl rfl rfl (bS rfl) ⟨rfl,trivial⟩ ?_;refine cH rfl rfl rfl (bS rfl) ⟨rfl,trivial⟩ ?_;obtain⟨y,mw,h⟩:=aa h;refine cH rfl rfl rfl (eG rfl mw) ⟨rfl,rfl,trivial⟩ ?_;refine cH rfl rfl rfl (bS rfl) ⟨rfl,trivial⟩ ?_;refine cH rfl rfl rfl (bS rfl) ⟨rfl,trivial⟩ ?_;obtain⟨TM,mc,h⟩:=aa h;refine cH rfl rfl rfl (eG rfl mc) ⟨rfl,rfl,trivial⟩ ?_;obtain⟨E,s,h⟩:=aa h;refine iU 0 rfl rfl rfl rfl (cK (t:=Ti) rfl fD cJ s) ⟨rfl,rfl,trivial⟩ ?_;refine iU 0 rfl rfl rfl rfl (gJ (i:=Int.toNat TM) (off:=0) rfl cJ (λ_=>rfl) rfl (dG s).2.2 rfl) ⟨rfl,trivial⟩ ?_;refine cH rfl rfl rfl (bS rfl) ⟨rfl,trivial⟩ ?_;refine cH rfl rfl rfl (bS rfl) ⟨rfl,trivial⟩ ?_;obtain⟨D,l,h⟩:=aa h;refine iU 0 rfl rfl rfl rfl (cK (t:=Ti) rfl fD cJ l) ⟨rfl,rfl,trivial⟩ ?_;refine iU 0 rfl rfl rfl rfl (gJ (i:=Int.toNat y6.2) (off:=0) rfl cJ (λ_=>rfl) rfl (dG l).2.2 rfl) ⟨rfl,trivial⟩ ?_;obtain⟨Uh,j,h⟩:=aa h;refine iU 0 rfl rfl rfl rfl (cK (t:=Ti) rfl fD cJ j) ⟨rfl,rfl,trivial⟩ ?_;refine xM 15 [true,true,false,false,false,true,true,true,true,true,true,true,true,true,true] [48] [] [] rfl (by kernel_rfl) (by kernel_rfl) (by kernel_rfl) eU (λvs hv hB=>?_);obtain⟨w0,Ux,rfl,T8⟩:=aG hv;obtain⟨w1,Uw,rfl,TZ⟩:=aG T8;obtain⟨w2,Uu,rfl,TY⟩:=aG TZ;obtain⟨w3,Ut,rfl,TX⟩:=aG TY;obtain⟨w4,Us,rfl,TW⟩:=aG TX;obtain⟨w5,Ur,rfl,TV⟩:=aG TW;obtain⟨w6,Up,rfl,TU⟩:=aG TV;obtain⟨w7,Uo,rfl,TS⟩:=aG TU;obtain⟨w8,Un,rfl,TR⟩:=aG TS;obtain⟨w9,Uf,rfl,X⟩:=aG TR;obtain⟨Um,Ue,rfl,U⟩:=aG X;obtain⟨Ul,Ud,rfl,Q⟩:=aG U;obtain⟨Uk,Uc,rfl,O⟩:=aG Q;obtain⟨Uj,Ub,rfl,M⟩:=aG O;obtain⟨Ui,Ua,rfl,J⟩:=aG M;obtain rfl:=s6 J;refine⟨[0],[.sl c 3 Ti y6.1],by kernel_rfl,by decide,?_⟩;refine sc rfl rfl (gk (i:=Int.toNat y6.2) rfl cJ rfl (mU j) rfl .int rfl) ⟨rfl,rfl,trivial⟩ (by kernel_rfl) ?_;obtain⟨Ug,e,h⟩:=aa h;refine Br rfl rfl rfl rfl (cK (t:=Ti) rfl fD cJ e) ⟨rfl,rfl,trivial⟩ (by kernel_rfl) ?_;refine sc rfl rfl (gk (i:=Int.toNat y) rfl cJ rfl (mU e) rfl .int rfl) ⟨rfl,rfl,trivial⟩ (by kernel_rfl) ?_;refine xI ?_;refine ce (SE.fin (Γ':=[(0,.eq c),(1,I a1),(2,I a2),(6,I y2.2),(7,I y6.2)]) (Δ':=[.sl c 3 Ti (List.set (List.set y6.1 (Int.toNat y6.2) E) (Int.toNat y) D)]) [0] ⟨rfl,rfl,rfl,rfl,rfl,trivial⟩ rfl) ?_;refine aZ (tn (ab (mq ?_)));obtain⟨TL,gw,h⟩:=aa h;refine jb (eG rfl gw) ?_;refine aq (nl ?_);exact jz ((),(List.set (List.set y6.1 (Int.toNat y6.2) E) (Int.toNat y) D,TL)) h [0]
    .refine fg (bK (bK (cX (bn ?_))));exact jz ((),y6.1) h [0]
  .refine ab (mq ?_);obtain⟨TK,Y,h⟩:=aa h;refine jb (bg rfl Y) ?_;refine aq (nl ?_);exact jz ((),(x4,TK)) h [0]
 .
  refine fg (bK (bK (cX (jM ?_))));cases h;exact aR () [] 1 trivial rfl
def jY(k:Nat)(a0:Int):Option Int:=
 ((if 4294967296≤a0 then(some (ia .u64 a0 32,32)) else(some (a0,0))):Option (Int×Int)).bind λx1=>
 ((if 65536≤x1.1 then((ck (x1.2+16)).bind λx5=>
 some (ia .u64 x1.1 16,x5)) else(some (x1.1,x1.2))):Option (Int×Int)).bind λx3=>
 ((if 256≤x3.1 then((ck (x3.2+8)).bind λx8=>
 some (ia .u64 x3.1 8,x8)) else(some (x3.1,x3.2))):Option (Int×Int)).bind λx6=>
 (AV JX (IntKind.u8.wrap x6.1)).bind λx9=>
 (ck (x9.toNat:Int)).bind λe=>
 (ck (x6.2+e)).bind λc=>
 some c
theorem pL(k:Nat)(a0:Int)(r:Int)(h:jY k a0=some r):
 dB Tryz.prog 166 [.eq (.int .u64 a0)] [] (λ_:Unit=>(bM [I r],[])):=by
 unfold jY at h
 replace h:=bu h
 refine dB.of 25 Tryz.func166 rfl Tryz.ntmps166 rfl λS w0=>?_
 refine sr ?_
 refine cq ?_
 refine nt ?_
 refine aL (Z:=Unit) (α:=Int×Int) (λz2 x1=>[(0,.eq (.int .u64 x1.1)),(2,I x1.2)]) (λz2 x1=>[]) h (λK h=>?_) (λz2 x1 h=>?_)
 .
  refine sr (mq ?_);refine jb (gq rfl) ?_;refine nt (ci h (λh=>?_) (λh=>?_))
  .refine sr (mq ?_);refine co rfl (tL rfl (by decide)) ⟨rfl,rfl,trivial⟩ ?_;refine aq (nt (ab ?_));refine cq (nl ?_);exact jz ((),(ia .u64 a0 32,32)) h []
  .refine bp (ao ?_);exact jz ((),(a0,0)) h []
 .
  refine aL (Z:=Unit) (α:=Int×Int) (λz4 x3=>[(0,.eq (.int .u64 x3.1)),(2,I x3.2)]) (λz4 x3=>[]) h (λK h=>?_) (λz4 x3 h=>?_)
  .refine sr (mq ?_);refine jb (gq rfl) ?_;refine nt (ci h (λh=>?_) (λh=>?_))
   .refine sr (mq ?_);refine co rfl (tL rfl (by decide)) ⟨rfl,rfl,trivial⟩ ?_;refine aq (nt (ab ?_));refine mq ?_;obtain⟨x5,n,h⟩:=aa h;refine jb (bg rfl n) ?_;refine aq (nl ?_);exact jz ((),(ia .u64 x1.1 16,x5)) h []
   .refine bp (ao ?_);exact jz ((),(x1.1,x1.2)) h []
  .refine aL (Z:=Unit) (α:=Int×Int) (λz7 x6=>[(0,.eq (.int .u64 x6.1)),(2,I x6.2)]) (λz7 x6=>[]) h (λK h=>?_) (λz7 x6 h=>?_)
   .refine sr (mq ?_);refine jb (gq rfl) ?_;refine nt (ci h (λh=>?_) (λh=>?_))
    .refine sr (mq ?_);refine co rfl (tL rfl (by decide)) ⟨rfl,rfl,trivial⟩ ?_;refine aq (nt (ab ?_));refine mq ?_;obtain⟨x8,l,h⟩:=aa h;refine jb (bg rfl l) ?_;refine aq (nl ?_);exact jz ((),(ia .u64 x3.1 8,x8)) h []
    .refine bp (ao ?_);exact jz ((),(x3.1,x3.2)) h []
   .refine sr ?_;iterate 2 refine mq ?_
    refine ja (rp rfl QL U5) ?_;obtain⟨x9,j,h⟩:=aa h;refine ja (yz rfl U9 j) ?_;obtain⟨u,e,h⟩:=aa h;refine ja (yA rfl U5 U3 e) ?_;obtain⟨s,c,h⟩:=aa h;refine jb (bg rfl c) ?_;refine aq (nt (aD ?_));cases h;exact ra
def oM(k:Nat)(a0:Int):Option Int:=
 (jY k a0).bind λr1=>
 some r1
theorem Ba(k:Nat)(a0:Int)(r:Int)(h:oM k a0=some r):
 dB Tryz.prog 155 [.eq (.int .u64 a0)] [] (λ_:Unit=>(bM [I r],[])):=by
 unfold oM at h
 replace h:=bu h
 refine dB.of 8 Tryz.func155 rfl Tryz.ntmps155 rfl λS w0=>?_
 refine sr ?_
 refine cq ?_
 refine nt ?_
 refine am ?_
 refine Ik (λhb=>(by cases hb)) (λhb=>?_)
 refine sk ?_
 refine sr ?_
 refine mq ?_
 obtain⟨r1,c,h⟩:=aa h
 have e:=pL k a0 r1 c
 refine ja (aA [.tmp 6] rfl rfl PX rfl e) ?_
 refine aq ?_
 refine nt ?_
 refine aD ?_
 cases h
 exact ra
def cz(k:Nat)(a0:(List Int))(a1:Int)(a2:Int)(a3:Int):Nat->Unit->Option (List Int)
 |0,_=>none
 |n+1,y1=>
  (ck (a2 - a1)).bind λx3=>
  if x3≤12 then((bU k a0 a1 a2).bind λr4=>
  some r4) else(if a3=0 then(none) else(none))
def cR(k:Nat)(a0:(List Int))(a1:Int)(a2:Int)(a3:Int):Option (List Int):=
 cz k a0 a1 a2 a3 k ()
theorem lz(k:Nat)(a0:(List Int))(c:Value)(a1:Int)(a2:Int)(a3:Int)(r:(List Int))(h:cR k a0 a1 a2 a3=some r):
 dB Tryz.prog 154 [.eq c,I a1,I a2,I a3] [.sl c 3 Ti a0] (λ_:Unit=>(bM [],[.sl c 3 Ti r])):=by
 unfold cR at h
 replace h:=bu h
 refine dB.of 134 Tryz.func154 rfl Tryz.ntmps154 rfl λS w0=>?_
 refine sr ?_
 refine cq ?_
 refine nt ?_
 refine sr ?_
 refine cq ?_
 refine nt ?_
 refine ak ?_
 refine aK (λz2 y1=>[(0,.eq c),(1,I a1),(2,I a2),(3,I a3),(8,.eq (.bool true)),(9,.eq (.bool true))]) (λz2 y1=>[.sl c 3 Ti a0]) (cz k a0 a1 a2 a3) k () () (λ_=>rfl) h (SE.fin [0] ⟨rfl,rfl,rfl,rfl,rfl,rfl,trivial⟩ rfl) (λn z2 y1 h=>?_)
 unfold cz at h
 refine ak ?_
 refine sr ?_
 iterate 2 refine mq ?_
 obtain⟨x3,e,h⟩:=aa h
 refine jb (eG rfl e) ?_
 refine aq ?_
 refine nt ?_
 refine am ?_
 refine sr ?_
 refine mq ?_
 refine jb (BK rfl) ?_
 refine nt ?_
 refine ci h (λh=>?_) (λh=>?_)
 .
  refine sr ?_;iterate 3 refine mq ?_
  obtain⟨r4,j,h⟩:=aa h;refine kc (aA [.tmp 24,.tmp 25,.tmp 26] rfl rfl PZ rfl (iW k a0 c a1 a2 r4 j)) ?_;refine nt (rx (bD (bG (bD ?_))));cases h;exact aR () [] 1 trivial rfl
 .
  refine sk (am (sr (mq ?_)));refine jb (dP rfl) ?_;refine nt (ci h (λh=>?_) (λh=>?_))
  .cases h
  .cases h
def fH(k:Nat)(a0:(List Int)):Option (List Int):=
 (oM k (IntKind.u64.wrap (a0.length:Int))).bind λr1=>
 (cR k a0 0 (a0.length:Int) r1).bind λr2=>
 some r2
theorem sH(k:Nat)(a0:(List Int))(c:Value)(r:(List Int))(h:fH k a0=some r):
 dB Tryz.prog 140 [.eq c] [.sl c 3 Ti a0] (λ_:Unit=>(bM [],[.sl c 3 Ti r])):=by
 unfold fH at h
 replace h:=bu h
 refine dB.of 11 Tryz.func140 rfl Tryz.ntmps140 rfl λS w0=>?_
 refine sr ?_
 refine mq ?_
 refine ka (me rfl rfl fD) ?_
 refine aq ?_
 refine nt ?_
 refine ab ?_
 iterate 3 refine mq ?_
 refine ja (rp rfl U3 SC) ?_
 obtain⟨r1,j,h⟩:=aa h
 have n:=Ba k (IntKind.u64.wrap (a0.length:Int)) r1 j
 refine ja (aA [.tmp 8] rfl rfl P0 rfl n) ?_
 obtain⟨r2,e,h⟩:=aa h
 have l:=lz k a0 c 0 (a0.length:Int) r1 r2 e
 refine lV rfl rfl rfl (aA [.tmp 5,.const (.int .i64 (0)),.tmp 6,.tmp 9] rfl rfl P1 rfl l) ⟨rfl,rfl,rfl,rfl,trivial⟩ ?_
 refine aI ?_
 refine jM ?_
 cases h
 exact aR () [] 1 trivial rfl
def cF(k:Nat)(a1:Int)(x3:(List (List Int))):Nat->Int->Option (Except (Int ⊕ (List Int)) Unit)
 |0,_=>none
 |n+1,y4=>
  if y4 < (x3.length:Int) then((aQ x3 y4).bind λx6=>
  (f6 k x6 a1).bind λr7=>
  if 0≤r7 then(((if 0 < r7 then((ck (r7 - 1)).bind λs=>
  (aQ x6 s).bind λe=>
  (cM (bW (length ([]:(List Int))+length [e]))).bind λ_=>
  some (([]:(List Int))++[e])) else(some ([]:(List Int)))):Option ((List Int))).bind λx8=>
  (((ck (r7+1)).bind λl=>
  if l < (x6.length:Int) then((ck (r7+1)).bind λj=>
  (aQ x6 j).bind λc=>
  (cM (bW (length x8+length [c]))).bind λ_=>
  some (x8++[c])) else(some x8)):Option ((List Int))).bind λr=>
  (fH k r).bind λu=>
  some (.error (Sum.inr u:(Int ⊕ (List Int))))) else((ck (y4+1)).bind λh=>
  cF k a1 x3 n h)) else(some (.ok ()))
def dX(k:Nat):Nat->ae->Int->Int->Option ((Int ⊕ (List Int)))
 |0,_,_,_=>none
 |m0+1,a0,a1,a2=>
  bE (α:=Unit) ((aQ a0.2.2.2.2.1 a2).bind λx3=>
  cF k a1 x3 k 0) (some) λ_=>
  ((if 0 < a2 then((ck (a2 - 1)).bind λh=>
  ((dX k m0) a0 a1 h).bind λc=>
  if Jd c=true then((ck (1+(OT c))).bind λe=>
  some e) else(some 1)) else(some 1)):Option (Int)).bind λj=>
  some (Sum.inl j:(Int ⊕ (List Int)))
theorem kX{M:Md Tryz.prog}{bm:Nat}{c0 c1 c2 c3 c4 c5:Value}(hK:Kn M bm 0 [c0,c1,c2,c3,c4,c5])(k:Nat):
 ∀(n:Nat) (a0:ae) (a1:Int) (a2:Int) (r:(Int ⊕ (List Int))),dX k n a0 a1 a2=some r->bY M 112 [.rep (.mo (Pv bm) [c0,c1,c2,c3,c4,c5] ay) a0,I a1,I a2] ([]) (λ_:Unit=>(bM [.rep (.pl 164 166 Tl) r],[])):=by
 intro n
 induction n with
 |zero=>intro a0 a1 a2 r h;cases h
 |succ m0 ih=>
  intro a0 a1 a2 r h;rw [dX] at h;replace h:=bu h;refine bY.of 80 Tryz.func112 rfl Tryz.ntmps112 rfl λS w0=>?_;refine sr (cq (nt ?_));refine dq (Z:=Unit) (α:=Unit) (λz2 x1=>[(0,.rep (.mo (Pv bm) [c0,c1,c2,c3,c4,c5] ay) a0),(1,I a1),(2,I a2)]) (λz2 x1=>[]) (λe=>e=r) h (λe h=>Option.some.inj h) (λK hR h=>?_) (λz2 x1 h=>?_)
  .refine sr (mq ?_);refine ja (kT rfl) ?_;refine ja (gr rfl gQ) ?_;refine ja (ip 1 false rfl dZ rfl rfl) ?_;refine ja (i7 (t:=(.slice (.slice Tl))) rfl jQ (hK.sub 4 1 rfl (le_of_ble_eq_true rfl)) rfl rfl) ?_;refine mq ?_;obtain⟨x3,TP,h⟩:=aa h;refine jb (aW (t:=(.slice Tl)) rfl xF sG TP) ?_;refine ja (av (t:=(.slice Tl)) rfl sG rfl) ?_;refine ol qL ?_;refine ff rfl ?_;refine nt (ak (aK (λz5 y4=>[(0,.rep (.mo (Pv bm) [c0,c1,c2,c3,c4,c5] ay) a0),(1,I a1),(2,I a2),(21,.rep (.slice Tl) x3),(22,I (x3.length:Int)),(23,I y4)]) (λz5 y4=>[]) (cF k a1 x3) k () 0 (λ_=>rfl) h (SE.fin [] ⟨rfl,rfl,rfl,rfl,rfl,rfl,trivial⟩ rfl) (λn z5 y4 h=>?_)));unfold cF at h;refine sr (jb (ba rfl) ?_);refine nt (am (ci h (λh=>?_) (λh=>?_)))
   .refine sk (am (ak (sr ?_)));obtain⟨x6,TO,h⟩:=aa h;refine jb (aW (t:=Tl) rfl qL gY TO) ?_;refine ja (av (t:=Tl) rfl gY rfl) ?_;refine aq (nt (sr ?_));iterate 2 refine mq ?_
    obtain⟨r7,TR,h⟩:=aa h;refine jb (aA [.tmp 27,.tmp 28] rfl rfl PR rfl (l8 k x6 a1 r7 TR)) ?_;refine aq (nt (sr ?_));refine mq ?_;refine jb (gq rfl) ?_;refine nt (ci h (λh=>?_) (λh=>?_))
    .refine sr (cq (nt ?_));refine aL (Z:=Value) (α:=(List Int)) (λz9 x8=>[(8,.rep Tl x6),(9,I r7),(10,.eq z9)]) (λz9 x8=>[.sl z9 3 Ti x8]) h (λK h=>?_) (λz9 x8 h=>?_)
     .refine sr (mq ?_);refine jb (mf rfl) ?_;refine nt (ci h (λh=>?_) (λh=>?_))
      .refine ab ?_;iterate 3 refine mq ?_
       obtain⟨TV,U,h⟩:=aa h;refine jb (eG rfl U) ?_;obtain⟨x,Q,h⟩:=aa h;refine jb (aW (t:=Ti) rfl fD cJ Q) ?_;refine ja (av (t:=Ti) rfl cJ rfl) ?_;refine ja (bh (t:=Ti) [(.tmp 39,_)] [x] rfl rfl dD (.cons rfl .int .nil) rfl rfl) ?_;refine eZ (SE.nil 3 Ti) ?_;obtain⟨TX,Y,h⟩:=aa h;refine eC rfl rfl rfl (cL rfl rfl dD (ap Y)) ⟨rfl,rfl,trivial⟩ λTL=>?_;refine aq (nl ?_);exact jz (TL,([]:(List Int))++[x]) h [0]
      .refine bp (ao (ce (SE.nil 3 Ti) ?_));exact jz ((.slice none 0 0),([]:(List Int))) h [0]
     .refine aL (Z:=Value) (α:=(List Int)) (λc j=>[(10,.eq c)]) (λc j=>[.sl c 3 Ti j]) h (λK h=>?_) (λc j h=>?_)
      .refine sr (mq ?_);obtain⟨TU,O,h⟩:=aa h;refine jb (bg rfl O) ?_;refine mq ?_;refine ol fD ?_;refine jb (ba rfl) ?_;refine nt (ci h (λh=>?_) (λh=>?_))
       .refine ab ?_;iterate 3 refine mq ?_
        obtain⟨TS,J,h⟩:=aa h;refine jb (bg rfl J) ?_;obtain⟨u,F,h⟩:=aa h;refine jb (aW (t:=Ti) rfl fD cJ F) ?_;refine ja (av (t:=Ti) rfl cJ rfl) ?_;refine ja (bh (t:=Ti) [(.tmp 52,_)] [u] rfl rfl dD (.cons rfl .int .nil) rfl rfl) ?_;obtain⟨TW,X,h⟩:=aa h;refine eC rfl rfl rfl (cL rfl rfl dD (ap X)) ⟨rfl,rfl,trivial⟩ λTK=>?_;refine aq (nl ?_);exact jz (TK,x8++[u]) h [0]
       .refine bp (ao ?_);exact jz (z9,x8) h [0]
      .refine sr (mq ?_);obtain⟨TN,mc,h⟩:=aa h;refine ka (aA [.tmp 55] rfl rfl P2 rfl (sH k j c TN mc)) ?_;refine nt (sr (mq ?_));refine eZ (iS [10,55,57] ⟨rfl,rfl,rfl,trivial⟩) ?_;refine ja (eu [(0,.tmp 57,_)] rfl OW Lm NX (j7 ⟨rfl,trivial⟩) rfl) ?_;refine ja (Jk (t0:=164) (t:=Ti) rfl SA) ?_;refine aq (nt (aD (br (bD (bG ?_)))));obtain rfl:=hR _ h;exact ra
    .refine bp (aZ (tn (ab ?_)));obtain⟨zz,E,h⟩:=aa h;refine jb (bg rfl E) ?_;refine mq (nl ?_);exact jz ((),zz) h []
   .refine xa ?_;exact jz ((),()) h []
  .refine sr (cq (nt ?_));refine aL (Z:=Unit) (α:=Int) (λs l=>[(11,I l)]) (λs l=>[]) h (λK h=>?_) (λs l h=>?_)
   .refine sr (mq ?_);refine jb (mf rfl) ?_;refine nt (ci h (λh=>?_) (λh=>?_))
    .refine sr ?_;iterate 3 refine mq ?_
     obtain⟨qt,D,h⟩:=aa h;refine jb (eG rfl D) ?_;obtain⟨TM,gw,h⟩:=aa h;refine jc (bb [.tmp 64,.tmp 65,.tmp 67] rfl rfl Hu rfl (ih a0 a1 qt TM gw)) ?_;refine co rfl (BL rfl Fp (by decide)) ⟨rfl,trivial⟩ ?_;refine mq ?_;refine xr ?_;refine xr ?_;refine bi rfl rfl rfl (bJ rfl EP LU) trivial λTY=>?_;refine aV rfl rfl (aS rfl Ly trivial rfl rfl) ⟨rfl,rfl,trivial⟩ ?_;refine aq (nt (sr ?_));refine mq (nt ?_);refine cv h (λh=>?_) (λh=>?_)
     .refine ab (mq ?_);refine fl Cj ?_;refine lo cJ ?_;obtain⟨mw,y,h⟩:=aa h;refine jb (bg rfl y) ?_;refine aq (nl ?_);exact jz ((),mw) h []
     .refine bp (ao ?_);exact jz ((),1) h []
    .refine bp (ao ?_);exact jz ((),1) h []
   .refine sr (mq ?_);refine ja (eu [(0,.tmp 77,_)] rfl OX EP NY (j7 ⟨rfl,trivial⟩) rfl) ?_;refine ja (Jl (t1:=166) (t:=Ti) rfl SB) ?_;refine aq (nt (aD ?_));cases h;exact ra
def il(k:Nat)(a0:LP):Option (List Int):=
 some ([]:(List Int))
theorem pG(k:Nat)(a0:LP)(r:(List Int))(h:il k a0=some r):
 dB Tryz.prog 190 [.rep ON a0] [] (λ_:Unit=>(bM [.rep Tl r],[])):=by
 unfold il at h
 replace h:=bu h
 refine dB.of 3 Tryz.func190 rfl Tryz.ntmps190 rfl λS w0=>?_
 refine sr ?_
 refine bx λb1=>?_
 refine cq ?_
 refine nt ?_
 refine sr ?_
 refine cq ?_
 refine nt ?_
 refine aD ?_
 refine ce (eI (t:=Tl) (x:=([]:(List Int))) 2 rfl .nil rfl rfl) ?_
 cases h
 exact ra
def ij(k:Nat)(a0:LO):Option (List Int):=
 some a0
theorem pB(k:Nat)(a0:LO)(r:(List Int))(h:ij k a0=some r):
 dB Tryz.prog 191 [.rep OM a0] [] (λ_:Unit=>(bM [.rep Tl r],[])):=by
 unfold ij at h
 replace h:=bu h
 refine dB.of 5 Tryz.func191 rfl Tryz.ntmps191 rfl λS w0=>?_
 refine sr ?_
 refine bx λb1=>?_
 refine cq ?_
 refine nt ?_
 refine sr ?_
 refine fl J7 ?_
 refine lo gY ?_
 refine aq ?_
 refine nt ?_
 refine aD ?_
 cases h
 exact ra
def bV(k:Nat)(a0:ae)(a1:(List Int))(r5:(List Int)):Nat->Int->Option (Except Int Unit)
 |0,_=>none
 |n+1,y6=>
  if y6 < (r5.length:Int) then((aQ r5 y6).bind λx8=>
  (cM (0≤x8/\x8 < 5)).bind λ_=>
  (aQ a1 x8).bind λe=>
  if(rN 0 a0.2.1)≤e then(some (.error x8)) else((ck (y6+1)).bind λc=>
  bV k a0 a1 r5 n c)) else(some (.ok ()))
def dn(k:Nat)(a0:ae)(a1:(List Int))(a2:Int)(a3:Int):Option Int:=
 bE (α:=Unit) ((dX k k a0 a2 a3).bind λr4=>
 (HG r4 (λn=>il k n) (λl=>ij k l)).bind λr5=>
 bV k a0 a1 r5 k 0) (some) λ_=>
 some (-1:Int)
theorem jA{M:Md Tryz.prog}{bm:Nat}{c0 c1 c2 c3 c4 c5:Value}(hK:Kn M bm 0 [c0,c1,c2,c3,c4,c5])(k:Nat)(a0:ae)(a1:(List Int))(a2:Int)(a3:Int)(r:Int)(h:dn k a0 a1 a2 a3=some r):
    bY M 113 [.rep (.mo (Pv bm) [c0,c1,c2,c3,c4,c5] ay) a0,.rep Tr a1,.eq (.int .i64 a2),.eq (.int .i64 a3)] [] (λ_:Unit=>(bM [.eq (.int .i64 r)],[])):=by
  unfold dn at h
  replace h:=bu h
  refine bY.of 33 Tryz.func113 rfl Tryz.ntmps113 rfl λS w0=>?_
  refine am ?_
  refine ab ?_
  refine bi rfl rfl rfl (vB rfl rfl) ⟨rfl,trivial⟩ λb1=>?_
  refine C9 rfl ?_
  refine aI ?_
  refine ao ?_
  show JC _ _ _ _ _
  refine dq (Z:=Unit) (α:=Unit) (λz3 x2=>[]) (λz3 x2=>[]) (λe=>e=r) h (λe h=>Option.some.inj h) (λK hR h=>?_) (λz3 x2 h=>?_)
  .
    refine am ?_
    refine ab ?_
    refine gX rfl rfl ?_
    refine gX rfl rfl ?_
    refine gX rfl rfl ?_
    obtain⟨r4,D,h⟩:=aa h
    have E:=kX hK k k a0 a2 a3 r4 D
    refine co rfl (bb [.tmp 11,.tmp 12,.tmp 13] rfl rfl Hu rfl E) ⟨rfl,rfl,rfl,trivial⟩ ?_
    obtain⟨r5,c,h⟩:=aa h
    refine co rfl (Jm (r:=.rep Tl r5) rfl rfl uX uW (λn hd=>.agI (pG k n r5 (by rw [hd] at c;exact c))) (λl hd=>.agS (pB k l r5 (by rw [hd] at c;exact c)))) ⟨rfl,trivial⟩ ?_
    refine co rfl (fW rfl rfl fD) ⟨rfl,trivial⟩ ?_
    refine ff rfl ?_
    refine aI ?_
    refine ao ?_
    show JC _ _ _ _ _
    refine ak ?_
    refine aK (λz7 y6=>[(0,.rep (.mo (Pv bm) [c0,c1,c2,c3,c4,c5] ay) a0),(5,.eq (Pv b1)),(15,.rep Tl r5),(16,.eq (.int .i64 (r5.length:Int))),(17,.eq (.int .i64 y6))]) (λz7 y6=>[.obj b1 80 (.rep Tr a1)]) (bV k a0 a1 r5) k () 0 (λ_=>rfl) h (SE.fin [0] ⟨rfl,rfl,rfl,rfl,rfl,trivial⟩ rfl) (λn z7 y6 h=>?_)
    unfold bV at h
    refine am ?_
    refine ab ?_
    refine co rfl (ba rfl) ⟨rfl,rfl,trivial⟩ ?_
    refine aI ?_
    refine ao ?_
    show JC _ _ _ _ _
    refine am ?_
    refine iT rfl (λhb=>?_) (λhb=>?_)
    . replace h:=be (gV hb) h
      refine bp ?_
      refine ao ?_
      show JC _ _ _ _ _
      refine am ?_
      refine ak ?_
      refine am ?_
      refine ab ?_
      obtain⟨x8,y,h⟩:=aa h
      refine co rfl (aW (t:=Ti) rfl fD cJ y) ⟨rfl,rfl,trivial⟩ ?_
      refine co rfl (av (t:=Ti) rfl cJ rfl) ⟨rfl,trivial⟩ ?_
      refine uA rfl rfl ?_
      refine aI ?_
      refine ao ?_
      show JC _ _ _ _ _
      refine am ?_
      refine cV ?_
      refine fS rfl rfl rfl (bS rfl) ⟨rfl,trivial⟩ ?_
      obtain⟨u9,u,h⟩:=aa h
      refine fS rfl rfl rfl (dO rfl Bm cJ (ap u).1 (ap u).2) ⟨rfl,rfl,trivial⟩ ?_
      obtain⟨F,s,h⟩:=aa h
      refine xN 0 rfl rfl rfl rfl (mJ (t:=Ti) (off:=0) (i:=x8) (N:=5) rfl cJ (λ_=>rfl) rfl rfl rfl rfl s) ⟨rfl,trivial⟩ ?_
      refine fS rfl rfl rfl (bS rfl) ⟨rfl,trivial⟩ ?_
      refine fS rfl rfl rfl (kT rfl) ⟨rfl,trivial⟩ ?_
      refine fS rfl rfl rfl (gr rfl gQ) ⟨rfl,trivial⟩ ?_
      refine fS rfl rfl rfl (ip 1 false rfl AZ rfl rfl) ⟨rfl,trivial⟩ ?_
      refine fS rfl rfl rfl (i7 (t:=Ti) rfl cJ (hK.sub 1 1 rfl (le_of_ble_eq_true rfl)) rfl rfl) ⟨rfl,trivial⟩ ?_
      refine fS rfl rfl rfl (Ge rfl rfl) ⟨rfl,rfl,trivial⟩ ?_
      refine Bv (by kernel_rfl) eU ?_
      refine co rfl (gq rfl) ⟨rfl,rfl,trivial⟩ ?_
      refine aI ?_
      refine ao ?_
      show JC _ _ _ _ _
      refine iT rfl (λhb=>?_) (λhb=>?_)
      . replace h:=be (gV hb) h
        refine am ?_
        refine ab ?_
        refine gX rfl rfl ?_
        refine uA rfl rfl ?_
        refine aI ?_
        refine ao ?_
        show JC _ _ _ _ _
        refine aD ?_
        refine bD ?_
        refine bG ?_
        refine bG ?_
        refine bD ?_
        refine bG ?_
        obtain rfl:=hR _ h
        exact aR () [_] 0 ⟨rfl,trivial⟩ rfl
      . replace h:=aC (gW hb) h
        refine bp ?_
        refine aZ ?_
        refine ao ?_
        show JC _ _ _ _ _
        refine ab ?_
        obtain⟨x,j,h⟩:=aa h
        refine co rfl (bg rfl j) ⟨rfl,rfl,trivial⟩ ?_
        refine gX rfl rfl ?_
        refine aI ?_
        refine ao ?_
        exact uB ((),x) h (SE.fin [0] ⟨rfl,rfl,rfl,rfl,rfl,trivial⟩ rfl)
    . replace h:=aC (gW hb) h
      refine fg ?_
      refine bK ?_
      refine bK ?_
      refine cX ?_
      refine ao ?_
      exact uB ((),()) h (SE.fin [] trivial rfl)
  .
    refine am ?_
    refine ab ?_
    refine C9 rfl ?_
    refine aI ?_
    refine ao ?_
    show JC _ _ _ _ _
    refine aD ?_
    obtain rfl:=Option.some.inj h
    exact aR () [_] 0 ⟨rfl,trivial⟩ rfl
def cu(k:Nat)(a0:ae)(a1:(List Int))(a2:Int):Nat->((List Int)×Int)->Option (List Int)
 |0,_=>none
 |n+1,y6=>
  if y6.2 < a0.1 then((((dX k k a0 y6.2 a2).bind λc=>
  if Jd c=true then(if a0.2.2.2.1≤(OT c) then((cM (0≤y6.2/\y6.2 < 5)).bind λ_=>
  some (List.set y6.1 (Int.toNat y6.2) (-1:Int))) else(some y6.1)) else(if¬(Jd c=true) then((cM (0≤y6.2/\y6.2 < 5)).bind λ_=>
  (aQ a1 y6.2).bind λl=>
  if 0≤l then((cM (0≤y6.2/\y6.2 < 5)).bind λ_=>
  (aQ a1 y6.2).bind λj=>
  (ck (j+1)).bind λh=>
  (cM (0≤y6.2/\y6.2 < 5)).bind λ_=>
  some (List.set y6.1 (Int.toNat y6.2) h)) else((dn k a0 a1 y6.2 a2).bind λr=>
  if 0≤r then((cM (0≤y6.2/\y6.2 < 5)).bind λ_=>
  some (List.set y6.1 (Int.toNat y6.2) 0)) else(some y6.1))) else(some y6.1))):Option ((List Int))).bind λx8=>
  (ck (y6.2+1)).bind λe=>
  cu k a0 a1 a2 n (x8,e)) else(some y6.1)
def gy(k:Nat)(a0:ae)(a1:(List Int))(a2:Int):Option (List Int):=
 ((cu k a0 a1 a2 k (a1,0)):Option ((List Int))).bind λx4=>
 some x4
theorem qx{M:Md Tryz.prog}{bm:Nat}{c0 c1 c2 c3 c4 c5:Value}(hK:Kn M bm 0 [c0,c1,c2,c3,c4,c5])(k:Nat)(a0:ae)(a1:(List Int))(a2:Int)(r:(List Int))(h:gy k a0 a1 a2=some r):
 bY M 79 [.rep (.mo (Pv bm) [c0,c1,c2,c3,c4,c5] ay) a0,.rep Tr a1,I a2] [] (λ_:Unit=>(bM [.rep Tr r],[])):=by
 unfold gy at h
 replace h:=bu h
 refine bY.of 60 Tryz.func79 rfl Tryz.ntmps79 rfl λS w0=>?_
 refine sr ?_
 refine bx λb1=>?_
 refine bi rfl rfl rfl (bJ rfl IA KL) trivial λb2=>?_
 refine nt ?_
 refine sr ?_
 refine fr 1 ?_
 refine lo iV ?_
 refine bi rfl rfl rfl (bJ rfl IA KL) trivial λb3=>?_
 refine aV rfl rfl (aS rfl iV rfl rfl rfl) ⟨rfl,rfl,trivial⟩ ?_
 refine nt ?_
 refine aL (Z:=Unit) (α:=(List Int)) (λz5 x4=>[(6,Pt b2),(7,Pt b3)]) (λz5 x4=>[.obj b2 80 (.rep Tr [0,0,0,0,0]),.obj b3 80 (.rep Tr x4)]) h (λK h=>?_) (λz5 x4 h=>?_)
 .
  refine sr (mq ?_);refine ja (kT rfl) ?_;refine ja (gr rfl gQ) ?_;refine ja (ip 1 false rfl gC rfl rfl) ?_;refine ja (i7 (t:=Ti) rfl cJ (hK.sub 0 1 rfl (le_of_ble_eq_true rfl)) rfl rfl) ?_;refine ff rfl ?_;refine nt (ak (aK (λz7 y6=>[(0,.rep (.mo (Pv bm) [c0,c1,c2,c3,c4,c5] ay) a0),(2,I a2),(4,Pt b1),(6,Pt b2),(7,Pt b3),(16,I a0.1),(17,I y6.2)]) (λz7 y6=>[.obj b1 80 (.rep Tr a1),.obj b2 80 (.rep Tr [0,0,0,0,0]),.obj b3 80 (.rep Tr y6.1)]) (cu k a0 a1 a2) k () (a1,0) (λ_=>rfl) h (SE.fin [1,2,0] ⟨rfl,rfl,rfl,rfl,rfl,rfl,rfl,trivial⟩ rfl) (λn z7 y6 h=>?_)));unfold cu at h;refine sr (jb (ba rfl) ?_);refine nt (am (ci h (λh=>?_) (λh=>?_)))
  .refine sk (aL (Z:=Unit) (α:=(List Int)) (λz9 x8=>[(0,.rep (.mo (Pv bm) [c0,c1,c2,c3,c4,c5] ay) a0),(2,I a2),(4,Pt b1),(6,Pt b2),(7,Pt b3),(16,I a0.1),(17,I y6.2)]) (λz9 x8=>[.obj b1 80 (.rep Tr a1),.obj b2 80 (.rep Tr [0,0,0,0,0]),.obj b3 80 (.rep Tr x8)]) h (λK h=>?_) (λz9 x8 h=>?_))
   .refine ak (sr (mq ?_));refine aq (nt (sr ?_));iterate 3 refine mq ?_
    obtain⟨U,F,h⟩:=aa h;refine jc (bb [.tmp 20,.tmp 21,.tmp 22] rfl rfl Hu rfl (kX hK k k a0 y6.2 a2 U F)) ?_;refine nt (ak (sr (co rfl (BL rfl Fp (by decide)) ⟨rfl,trivial⟩ ?_)));refine xr ?_;refine xr ?_;refine nt (cv h (λh=>?_) (λh=>?_))
    .refine sr (bi rfl rfl rfl (bJ rfl EP LU) trivial λTK=>?_);refine aV rfl rfl (aS rfl Ly trivial rfl rfl) ⟨rfl,rfl,trivial⟩ ?_;refine nt (am (cV ?_));refine da (aJ rfl Cj) ?_;refine ea 0 (aE rfl cJ oU rfl) ?_;refine dm ?_;refine da (kT rfl) ?_;refine da (gr rfl gQ) ?_;refine da (ip 1 false rfl ud rfl rfl) ?_;refine da (i7 (t:=Ti) rfl cJ (hK.sub 3 1 rfl (le_of_ble_eq_true rfl)) rfl rfl) ?_;refine df eU ?_;refine jb (gq rfl) ?_;refine nt (ci h (λh=>?_) (λh=>?_))
     .refine ab (mq ?_);obtain⟨qt,j,h⟩:=aa h;refine jb (dO rfl Bm cJ (ap j).1 (ap j).2) ?_;refine fr 3 ?_;refine aV rfl rfl (gp (t:=Ti) (off:=0) (i:=y6.2) (N:=5) rfl cJ .int rfl rfl rfl rfl (ap j).1 (ap j).2 rfl) ⟨rfl,rfl,trivial⟩ ?_;refine aI (aZ (bn ?_));exact jz ((),List.set y6.1 (Int.toNat y6.2) (-1:Int)) h [2,3,0]
     .refine bp (aZ (bn ?_));exact jz ((),y6.1) h [1,2,3]
    .refine sr (co rfl (Jq rfl MG (by decide)) ⟨rfl,trivial⟩ ?_);refine xr ?_;refine xr ?_;refine nt (cw h (λh=>?_) (λh=>?_))
     .refine sr (bi rfl rfl rfl (bJ rfl Lm Qh) trivial λzz=>?_);refine aV rfl rfl (aS rfl OO trivial rfl rfl) ⟨rfl,rfl,trivial⟩ ?_;refine nt (sr (mq ?_));obtain⟨mw,s,h⟩:=aa h;refine jb (dO rfl Bm cJ (ap s).1 (ap s).2) ?_;obtain⟨Y,D,h⟩:=aa h;refine fr 1 ?_;refine ka (mJ (t:=Ti) (off:=0) (i:=y6.2) (N:=5) rfl cJ (λ_=>rfl) rfl rfl rfl rfl D) ?_;refine jb (gq rfl) ?_;refine nt (ci h (λh=>?_) (λh=>?_))
      .refine ab ?_;iterate 2 refine mq ?_
       obtain⟨u16,l,h⟩:=aa h;refine jb (dO rfl Bm cJ (ap l).1 (ap l).2) ?_;obtain⟨X,y,h⟩:=aa h;refine ka (mJ (t:=Ti) (off:=0) (i:=y6.2) (N:=5) rfl cJ (λ_=>rfl) rfl rfl rfl rfl y) ?_;obtain⟨O,x,h⟩:=aa h;refine jb (bg rfl x) ?_;obtain⟨mc,e,h⟩:=aa h;refine jb (dO rfl Bm cJ (ap e).1 (ap e).2) ?_;refine fr 3 ?_;refine aV rfl rfl (gp (t:=Ti) (off:=0) (i:=y6.2) (N:=5) rfl cJ .int rfl rfl rfl rfl (ap e).1 (ap e).2 rfl) ⟨rfl,rfl,trivial⟩ ?_;refine aI (aZ (bn ?_));exact jz ((),List.set y6.1 (Int.toNat y6.2) O) h [1,3,0]
      .refine sr (mq ?_);refine lo iV ?_;iterate 2 refine mq ?_
       obtain⟨Q,E,h⟩:=aa h;refine co rfl (bb [.tmp 50,.tmp 51,.tmp 52,.tmp 53] rfl rfl LK rfl (jA hK k a0 a1 y6.2 a2 Q E)) ⟨rfl,rfl,rfl,rfl,trivial⟩ ?_;refine jb (gq rfl) ?_;refine nt (ci h (λh=>?_) (λh=>?_))
       .refine ab (mq ?_);obtain⟨gw,c,h⟩:=aa h;refine jb (dO rfl Bm cJ (ap c).1 (ap c).2) ?_;refine fr 3 ?_;refine aV rfl rfl (gp (t:=Ti) (off:=0) (i:=y6.2) (N:=5) rfl cJ .int rfl rfl rfl rfl (ap c).1 (ap c).2 rfl) ⟨rfl,rfl,trivial⟩ ?_;refine aI (aZ (bn ?_));exact jz ((),List.set y6.1 (Int.toNat y6.2) 0) h [1,3,0]
       .refine bp (aZ (bn ?_));exact jz ((),y6.1) h [0,2,3]
     .refine bp (aZ (bn ?_));exact jz ((),y6.1) h [0,1,2]
   .refine ab ?_;obtain⟨J,u,h⟩:=aa h;refine jb (bg rfl u) ?_;refine mq (nl ?_);exact jz ((),(x8,J)) h [0,1,2]
  .refine xa ?_;exact jz ((),y6.1) h [1,2]
 .
  refine sr (fr 1 ?_);refine lo iV ?_;refine fr 1 ?_;refine aV rfl rfl (aS rfl iV rfl rfl rfl) ⟨rfl,rfl,trivial⟩ ?_;refine nt (aD ?_);obtain rfl:=Option.some.inj h;exact aR () [.rep Tr x4] 0 ⟨⟨_,_,_,_,_,rfl,(.head _),iV,(vE),rfl⟩,trivial⟩ rfl
def dj{σ:Type}(k:Nat)(a0:Int)(a3:Int)(self:Int->Int->σ->Option (Bool×σ)):Nat->(Int×σ)->Option (Except (Bool×σ) (σ))
 |0,_=>none
 |n+1,y5=>
  if y5.1 < a3 then((fN k a0 y5.1).bind λr7=>
  (ck (y5.1+1)).bind λx8=>
  (self r7 x8 y5.2).bind λr9=>
  if¬(r9.1=true) then(some (.error (false,r9.2))) else((ck (y5.1+1)).bind λc=>
  dj k a0 a3 self n (c,r9.2))) else(some (.ok y5.2))
def dk{σ:Type}(k:Nat)(Y:σ->Int->Option (σ×Bool))(a3:Int):Nat->Int->Int->σ->Option (Bool×σ)
 |0,_,_,_=>none
 |m0+1,a0,a1,s0=>
  (Y s0 a0).bind λr1=>
  if¬(r1.2=true) then(some (false,r1.1)) else(bE (α:=σ) (dj k a0 a3 (dk k Y a3 m0) k (a1,r1.1)) (some) λx3=>
  some (true,x3))
theorem rF{M:Md Tryz.prog}{σ Z:Type}(E:Z->σ->List D)(l:Nat)(Y:σ->Int->Option (σ×Bool))(k:Nat)(u:Nat)(a3:Int)(j:Nat)(c:Nat)(hY:∀z s p r,Y s p=some r->YT M l [.eq (.int .u8 p)] (E z s) (λz':Z=>(.eq (.bool r.2),E z' r.1))):
 ∀(n:Nat) (a0:Int) (a1:Int) (z0:Z) (s0:σ) (r:Bool×σ),dk k Y a3 n a0 a1 s0=some r->bY M 107 [.eq (.int .u8 a0),I a1,Pt u,Pt j,Pt c] ([.obj u 137 (.eq (.func (.yield l) #[] #[])),.obj j 3 (I a3),.obj c 136 (.eq (.func (.func 107) #[] #[(Pv u),(Pv j),(Pv c)]))]++E z0 s0) (λz:Z=>(bM [.eq (.bool r.1)],[.obj u 137 (.eq (.func (.yield l) #[] #[])),.obj j 3 (I a3),.obj c 136 (.eq (.func (.func 107) #[] #[(Pv u),(Pv j),(Pv c)]))]++E z r.2)):=by
 intro n
 induction n with
 |zero=>intro a0 a1 z0 s0 r h;cases h
 |succ m0 ih=>
  intro a0 a1 z0 s0 r h;rw [dk] at h;replace h:=bu h;refine bY.of 27 Tryz.func107 rfl Tryz.ntmps107 rfl λS w0=>?_;refine sr (cq (nt (am (sr ?_))));refine lo OP ?_;refine mq ?_;obtain⟨r1,U,h⟩:=aa h;refine fr 2 ?_;refine fr 2 ?_;refine fr 2 ?_;refine Ib [.obj u 137 (.eq (.func (.yield l) #[] #[])),.obj j 3 (I a3),.obj c 136 (.eq (.func (.func 107) #[] #[(Pv u),(Pv j),(Pv c)]))] rfl rfl rfl (Jh [.tmp 10] rfl rfl rfl (hY z0 s0 a0 r1 U)) ⟨rfl,rfl,trivial⟩ λz2=>?_;refine ja (iY rfl) ?_;refine nt (cw h (λh=>?_) (λh=>?_))
  .refine sr (cq (nt (rx ?_)));cases h;exact ta z2 [_] ⟨rfl,trivial⟩ rfl
  .refine sk (dq (Z:=Z) (α:=σ) (λz4 x3=>[]) (λz4 x3=>[.obj u 137 (.eq (.func (.yield l) #[] #[])),.obj j 3 (I a3),.obj c 136 (.eq (.func (.func 107) #[] #[(Pv u),(Pv j),(Pv c)]))]++E z4 x3) (λe=>e=r) h (λe h=>Option.some.inj h) (λK hR h=>?_) (λz4 x3 h=>?_))
   .refine sr (mq ?_);refine aq (nt (ak ?_));refine aK (Z:=Z) (α:=Int×σ) (λz6 y5=>[(0,.eq (.int .u8 a0)),(3,Pt j),(4,Pt c),(8,I y5.1)]) (λz6 y5=>[.obj j 3 (I a3),.obj c 136 (.eq (.func (.func 107) #[] #[(Pv u),(Pv j),(Pv c)])),.obj u 137 (.eq (.func (.yield l) #[] #[]))]++E z6 y5.2) (dj k a0 a3 (dk k Y a3 m0)) k z2 (a1,r1.1) (λ_=>rfl) h (kz [.obj u 137 (.eq (.func (.yield l) #[] #[])),.obj j 3 (I a3),.obj c 136 (.eq (.func (.func 107) #[] #[(Pv u),(Pv j),(Pv c)]))] (E z2 r1.1) [1,2,0] ⟨rfl,rfl,rfl,rfl,trivial⟩ rfl) (λn z6 y5 h=>?_);unfold dj at h;refine am (sr (mq ?_));refine lo cJ ?_;refine jb (ba rfl) ?_;refine nt (ci h (λh=>?_) (λh=>?_))
    .refine sk (am (ak (am (cV ?_))));refine ea 1 (aE rfl Fz oU rfl) ?_;refine dm ?_;refine dm ?_;obtain⟨r7,Q,h⟩:=aa h;refine db (aA [.tmp 20,.tmp 21] rfl rfl NH rfl (jW k a0 y5.1 r7 Q)) ?_;refine dm ?_;obtain⟨x8,J,h⟩:=aa h;refine db (bg rfl J) ?_;refine df eU ?_;obtain⟨r9,O,h⟩:=aa h;refine fr 1 ?_;refine fr 1 ?_;refine fr 2 ?_;refine zH rfl rfl rfl (qm (fs:=[]) (cs:=[(Pv u),(Pv j),(Pv c)]) (ags:=[.eq (.int .u8 r7),I x8]) [.tmp 22,.tmp 24] rfl rfl LM rfl (ih r7 x8 z6 y5.2 r9 O)) ⟨rfl,rfl,rfl,trivial⟩ λx=>?_;refine ja (iY rfl) ?_;refine nt (cw h (λh=>?_) (λh=>?_))
     .refine sr (cq (nt (aD (br (bD (bG ?_))))));obtain rfl:=hR _ h;exact ta x [_] ⟨rfl,trivial⟩ rfl
     .refine bp (aZ (tn (ab (mq ?_))));obtain⟨F,y,h⟩:=aa h;refine jb (bg rfl y) ?_;refine aq (nl ?_);exact uB (x,(F,r9.2)) h (kz [.obj u 137 (.eq (.func (.yield l) #[] #[])),.obj j 3 (I a3),.obj c 136 (.eq (.func (.func 107) #[] #[(Pv u),(Pv j),(Pv c)]))] (E x r9.2) [1,2,0] ⟨rfl,rfl,rfl,rfl,trivial⟩ rfl)
    .refine xa ?_;exact uB (z6,y5.2) h (kz [.obj j 3 (I a3),.obj c 136 (.eq (.func (.func 107) #[] #[(Pv u),(Pv j),(Pv c)])),.obj u 137 (.eq (.func (.yield l) #[] #[]))] (E z6 y5.2) [2,0,1] trivial rfl)
   .refine sr (cq (nt (aD ?_)));cases h;exact ta z4 [_] ⟨rfl,trivial⟩ rfl
def jB{σ:Type}(k:Nat)(Y:σ->Int->Option (σ×Bool))(a1:Int)(s0:σ):Option (σ):=
 (dk k Y a1 k 0 0 s0).bind λr3=>
 some r3.2
theorem nR{M:Md Tryz.prog}{σ Z:Type}(E:Z->σ->List D)(l:Nat)(Y:σ->Int->Option (σ×Bool))(k:Nat)(a1:Int)(c:Nat)(hY:∀z s p r,Y s p=some r->YT M l [.eq (.int .u8 p)] (E z s) (λz':Z=>(.eq (.bool r.2),E z' r.1))):
 ∀(z0:Z) (s0:σ) (r:σ),jB k Y a1 s0=some r->bY M 106 [.eq (.func (.yield l) #[] #[]),Pt c] ([.obj c 3 (I a1)]++E z0 s0) (λz:Z=>(bM [],[.obj c 3 (I a1)]++E z r)):=by
 intro z0 s0 r h
 unfold jB at h
 replace h:=bu h
 refine bY.of 7 Tryz.func106 rfl Tryz.ntmps106 rfl λS w0=>?_
 refine sr ?_
 refine bx λb1=>?_
 refine nt ?_
 refine sr ?_
 refine bi rfl rfl rfl (bJ rfl OE Qi) trivial λb2=>?_
 refine nt ?_
 refine sr ?_
 refine jc (rl [] [.tmp 2,.tmp 1,.tmp 3] [] [(Pv b1),(Pv c),(Pv b2)] rfl rfl rfl) ?_
 refine aV rfl rfl (aS rfl Fz rfl rfl rfl) ⟨rfl,rfl,trivial⟩ ?_
 refine nt ?_
 refine ab ?_
 refine lo Fz ?_
 obtain⟨r3,e,h⟩:=aa h
 have j:=rF E l Y k b1 a1 c b2 hY k 0 0 z0 s0 r3 e
 refine fr 2 ?_
 refine fr 2 ?_
 refine zH rfl rfl rfl (qm (fs:=[]) (cs:=[(Pv b1),(Pv c),(Pv b2)]) (ags:=[.eq (.int .u8 0),I 0]) [.const (.int .u8 (0)),.const (.int .i64 (0))] rfl rfl LM rfl j) ⟨rfl,rfl,rfl,trivial⟩ λz4=>?_
 refine aI ?_
 refine jM ?_
 refine ce (kz (Γ':=[]) [.obj b1 137 (.eq (.func (.yield l) #[] #[])),.obj c 3 (I a1),.obj b2 136 (.eq (.func (.func 107) #[] #[(Pv b1),(Pv c),(Pv b2)]))] (E z4 r3.2) [1] trivial rfl) ?_
 cases h
 exact ta z4 [] trivial rfl
theorem qz(a0:Int):dB Tryz.prog 73 [I a0] [] (λz:Nat=>(bM [.eq (.func (.func 106) #[] #[(Pv z)])],[.obj z 3 (I a0)])):=by
 refine dB.of 4 Tryz.func73 rfl Tryz.ntmps73 rfl λS w0=>?_;refine sr (bx λz=>?_);refine cq (nt (sr ?_));refine ja (rl [] [.tmp 1] [] [(Pv z)] rfl rfl rfl) ?_;refine aq (nt (aD ?_));exact aR z [_] 1 ⟨rfl,trivial⟩ rfl
def du(k:Nat)(a0:Int):Nat->((List Int)×Int)->Option (List Int)
 |0,_=>none
 |n+1,y3=>
  if y3.2 < 5 then((((eO k a0 y3.2).bind λr7=>
  if r7=true then((cM (bW (length y3.1+length [y3.2]))).bind λ_=>
  some (y3.1++[y3.2])) else(some y3.1)):Option ((List Int))).bind λx5=>
  (ck (y3.2+1)).bind λc=>
  du k a0 n (x5,c)) else(some y3.1)
def fO(k:Nat)(a0:Int):Option (List Int):=
 ((du k a0 k (([]:(List Int)),0)):Option ((List Int))).bind λx1=>
 some x1
theorem jX(k:Nat)(a0:Int)(r:(List Int))(h:fO k a0=some r):
 dB Tryz.prog 39 [.eq (.int .u8 a0)] [] (λ_:Unit=>(bM [.rep Tl r],[])):=by
 unfold fO at h
 replace h:=bu h
 refine dB.of 17 Tryz.func39 rfl Tryz.ntmps39 rfl λS w0=>?_
 refine sr ?_
 refine cq ?_
 refine nt ?_
 refine sr ?_
 refine cq ?_
 refine nt ?_
 refine aL (Z:=Value) (α:=(List Int)) (λz2 x1=>[(3,.eq z2)]) (λz2 x1=>[.sl z2 3 Ti x1]) h (λK h=>?_) (λz2 x1 h=>?_)
 .
  refine sr (ff rfl ?_);refine nt (ak (jN (SE.nil 3 Ti) ?_));refine aK (λz4 y3=>[(0,.eq (.int .u8 a0)),(3,.eq z4),(5,I y3.2)]) (λz4 y3=>[.sl z4 3 Ti y3.1]) (du k a0) k (.slice none 0 0) (([]:(List Int)),0) (λ_=>rfl) h (SE.fin [0] ⟨rfl,rfl,rfl,trivial⟩ rfl) (λn z4 y3 h=>?_);unfold du at h;refine sr (jb (ba rfl) ?_);refine nt (am (ci h (λh=>?_) (λh=>?_)))
  .refine sk (aL (Z:=Value) (α:=(List Int)) (λz6 x5=>[(0,.eq (.int .u8 a0)),(3,.eq z6),(5,I y3.2)]) (λz6 x5=>[.sl z6 3 Ti x5]) h (λK h=>?_) (λz6 x5 h=>?_))
   .refine ak (sr (mq ?_));refine aq (nt (sr ?_));iterate 2 refine mq ?_
    obtain⟨r7,l,h⟩:=aa h;refine jb (aA [.tmp 8,.tmp 9] rfl rfl Ht rfl (gx k a0 y3.2 r7 l)) ?_;refine nt (cv h (λh=>?_) (λh=>?_))
    .refine ab ?_;iterate 2 refine mq ?_
     refine ja (bh (t:=Ti) [(.tmp 12,_)] [y3.2] rfl rfl dD (.cons rfl .int .nil) rfl rfl) ?_;obtain⟨u8,j,h⟩:=aa h;refine eC rfl rfl rfl (cL rfl rfl dD (ap j)) ⟨rfl,rfl,trivial⟩ λv9=>?_;refine aq (aI (bn ?_));exact jz (v9,y3.1++[y3.2]) h [0]
    .refine bp (bn ?_);exact jz (z4,y3.1) h [0]
   .refine ab ?_;obtain⟨e,c,h⟩:=aa h;refine jb (bg rfl c) ?_;refine mq (nl ?_);exact jz (z6,(x5,e)) h [0]
  .refine xa ?_;exact jz (z4,y3.1) h [0]
 .
  refine sr (mq ?_);refine aq (nt (aD ?_));refine ce (iS [2,3,16] ⟨rfl,rfl,rfl,trivial⟩) ?_;cases h;exact ra
def g7(k:Nat)(a0:List Int):Option (List Int):=
 (cM (bW (length a0))).bind λ_=>some a0
theorem qW(k:Nat)(a0:List Int)(r:List Int)(h:g7 k a0=some r):
 dB Tryz.prog 41 [.rep Tl a0] [] (λz:Value=>(bM [.eq z],[.sl z 3 Ti r])):=by
 unfold g7 at h
 replace h:=bu h
 refine dB.of 8 Tryz.func41 rfl Tryz.ntmps41 rfl λS w0=>?_
 obtain⟨u1,c,h⟩:=aa h
 cases h
 refine sr ?_
 refine cq ?_
 refine nt ?_
 refine am ?_
 refine sr ?_
 refine mq ?_
 refine aN (Δ:=[]) (F:=_) (λ_ _ _=>ag rfl _) rfl rfl (Jo rfl fD) ⟨rfl,rfl,trivial⟩ λb=>?_
 refine nt ?_
 refine iT rfl (λhb=>?_) (λhb=>?_)
 .
  refine sr (cq (nt (rx ?_)));obtain rfl:=b.2 hb;refine ce (SE.nil 3 Ti) ?_;exact aR (.slice none 0 0) [.eq (.slice none 0 0)] 1 ⟨rfl,trivial⟩ rfl
 .
  refine sk (sr (bi rfl rfl rfl (mK (t:=Ti) [] [] rfl rfl dD .nil rfl rfl) trivial λv1=>?_));refine mq ?_;refine eC rfl rfl rfl (cL rfl rfl dD (by simpa using ap c)) ⟨rfl,rfl,trivial⟩ λv2=>?_;refine aq (nt (aD ?_));exact aR v2 [.eq v2] 1 ⟨rfl,trivial⟩ rfl
def eV(k:Nat)(a0:ae)(a1:(List (List Int))):Nat->Int->Option (Except Bool Unit)
 |0,_=>none
 |n+1,y5=>
  if y5 < (a1.length:Int) then((aQ a1 y5).bind λx7=>
  if¬((x7.length:Int)=a0.1) then(some (.error false)) else((ck (y5+1)).bind λx8=>
  eV k a0 a1 n x8)) else(some (.ok ()))
def ml(k:Nat)(a0:ae)(a1:(List (List Int))):Option Bool:=
 (ck ((a0.2.2.2.2.1.length:Int)+1)).bind λx2=>
 if¬((a1.length:Int)=x2) then(some false) else(bE (α:=Unit) (eV k a0 a1 k 0) (some) λ_=>
 some true)
theorem wX(k:Nat)(a0:ae)(a1:(List (List Int)))(r:Bool)(h:ml k a0 a1=some r):
 dB Tryz.prog 13 [.rep ay a0,.rep (.slice Tl) a1] [] (λ_:Unit=>(bM [.eq (.bool r)],[])):=by
 unfold ml at h
 replace h:=bu h
 refine dB.of 27 Tryz.func13 rfl Tryz.ntmps13 rfl λS w0=>?_
 refine sr ?_
 refine bx λb1=>?_
 refine cq ?_
 refine nt ?_
 refine am ?_
 refine sr ?_
 refine mq ?_
 refine ol qL ?_
 refine fl dZ ?_
 refine lo jQ ?_
 refine ol xF ?_
 obtain⟨x2,l,h⟩:=aa h
 refine jb (bg rfl l) ?_
 refine jb (cG rfl) ?_
 refine nt ?_
 refine cn h (λh=>?_) (λh=>?_)
 .
  refine sr (cq (nt (rx ?_)));cases h;exact ra
 .
  refine sk (dq (Z:=Unit) (α:=Unit) (λz4 x3=>[]) (λz4 x3=>[]) (λe=>e=r) h (λe h=>Option.some.inj h) (λK hR h=>?_) (λz4 x3 h=>?_))
  .refine sr (cq (nt (ak ?_)));refine aK (λz6 y5=>[(1,.rep (.slice Tl) a1),(2,Pt b1),(5,I y5)]) (λz6 y5=>[.obj b1 26 (.rep ay a0)]) (eV k a0 a1) k () 0 (λ_=>rfl) h (SE.fin [0] ⟨rfl,rfl,rfl,trivial⟩ rfl) (λn z6 y5 h=>?_);unfold eV at h;refine am (sr ?_);iterate 2 refine mq ?_
   refine ol qL ?_;refine jb (ba rfl) ?_;refine nt (ci h (λh=>?_) (λh=>?_))
   .refine sk (am (ak (am (cV ?_))));refine dm ?_;refine dm ?_;obtain⟨x7,j,h⟩:=aa h;refine db (aW (t:=Tl) rfl qL gY j) ?_;refine da (av (t:=Tl) rfl gY rfl) ?_;refine da (fW rfl rfl fD) ?_;refine da (aJ rfl gC) ?_;refine ea 0 (aE rfl cJ oU rfl) ?_;refine df eU ?_;refine jb (cG rfl) ?_;refine nt (cn h (λh=>?_) (λh=>?_))
    .refine sr (cq (nt (aD (br (bD (bG ?_))))));obtain rfl:=hR _ h;exact ra
    .refine bp (aZ (tn (ab (mq ?_))));obtain⟨x8,c,h⟩:=aa h;refine jb (bg rfl c) ?_;refine aq (nl ?_);exact jz ((),x8) h [0]
   .refine xa ?_;exact jz ((),()) h []
  .refine sr (cq (nt (aD ?_)));cases h;exact ra
def iE(k:Nat)(a0:(List Int)):Nat->(Int×Int)->Option Int
 |0,_=>none
 |n+1,y4=>
  if y4.2 < (a0.length:Int) then((aQ a0 y4.2).bind λx6=>
  (ck (y4.2+1)).bind λx7=>
  iE k a0 n (G5 y4.1 x6,x7)) else(some y4.1)
def lD(k:Nat)(a0:(List Int)):Option Int:=
 if(a0.length:Int) < 1 then(none) else((aQ a0 0).bind λx1=>
 ((iE k a0 k (x1,1)):Option (Int)).bind λx2=>
 some x2)
theorem nD(k:Nat)(a0:(List Int))(r:Int)(h:lD k a0=some r):
 dB Tryz.prog 45 [.rep Tl a0] [] (λ_:Unit=>(bM [I r],[])):=by
 unfold lD at h
 replace h:=bu h
 refine dB.of 25 Tryz.func45 rfl Tryz.ntmps45 rfl λS w0=>?_
 refine sr ?_
 refine cq ?_
 refine nt ?_
 refine am ?_
 refine sr ?_
 refine mq ?_
 refine ol fD ?_
 refine jb (ba rfl) ?_
 refine nt ?_
 refine ci h (λh=>?_) (λh=>?_)
 .
  cases h
 .
  refine sk (sr (mq ?_));obtain⟨x1,j,h⟩:=aa h;refine jb (aW (t:=Ti) rfl fD cJ j) ?_;refine ja (av (t:=Ti) rfl cJ rfl) ?_;refine aq (nt ?_);refine aL (Z:=Unit) (α:=Int) (λz3 x2=>[(3,I x2)]) (λz3 x2=>[]) h (λK h=>?_) (λz3 x2 h=>?_)
  .refine sr (cq (nt (ak ?_)));refine aK (λz5 y4=>[(0,.rep Tl a0),(3,I y4.1),(4,I y4.2)]) (λz5 y4=>[]) (iE k a0) k () (x1,1) (λ_=>rfl) h (SE.fin [] ⟨rfl,rfl,rfl,trivial⟩ rfl) (λn z5 y4 h=>?_);unfold iE at h;refine am (sr ?_);iterate 2 refine mq ?_
   refine ol fD ?_;refine jb (ba rfl) ?_;refine nt (ci h (λh=>?_) (λh=>?_))
   .refine sk (am (ak (ab ?_)));iterate 3 refine mq ?_
    obtain⟨x6,e,h⟩:=aa h;refine jb (aW (t:=Ti) rfl fD cJ e) ?_;refine ja (av (t:=Ti) rfl cJ rfl) ?_;refine jb (O1 rfl rfl) ?_;refine aq (aI (aZ (tn (ab ?_))));refine mq ?_;obtain⟨x7,c,h⟩:=aa h;refine jb (bg rfl c) ?_;refine aq (nl ?_);exact jz ((),(G5 y4.1 x6,x7)) h []
   .refine xa ?_;exact jz ((),y4.1) h []
  .refine sr (mq ?_);refine aq (nt (aD ?_));cases h;exact ra
def iF(k:Nat)(a0:(List Int)):Nat->(Int×Int)->Option Int
 |0,_=>none
 |n+1,y4=>
  if y4.2 < (a0.length:Int) then((aQ a0 y4.2).bind λx6=>
  (ck (y4.2+1)).bind λx7=>
  iF k a0 n (rN y4.1 x6,x7)) else(some y4.1)
def nE(k:Nat)(a0:(List Int)):Option Int:=
 if(a0.length:Int) < 1 then(none) else((aQ a0 0).bind λx1=>
 ((iF k a0 k (x1,1)):Option (Int)).bind λx2=>
 some x2)
theorem tq(k:Nat)(a0:(List Int))(r:Int)(h:nE k a0=some r):
 dB Tryz.prog 46 [.rep Tl a0] [] (λ_:Unit=>(bM [I r],[])):=by
 unfold nE at h
 replace h:=bu h
 refine dB.of 25 Tryz.func46 rfl Tryz.ntmps46 rfl λS w0=>?_
 refine sr ?_
 refine cq ?_
 refine nt ?_
 refine am ?_
 refine sr ?_
 refine mq ?_
 refine ol fD ?_
 refine jb (ba rfl) ?_
 refine nt ?_
 refine ci h (λh=>?_) (λh=>?_)
 .
  cases h
 .
  refine sk (sr (mq ?_));obtain⟨x1,j,h⟩:=aa h;refine jb (aW (t:=Ti) rfl fD cJ j) ?_;refine ja (av (t:=Ti) rfl cJ rfl) ?_;refine aq (nt ?_);refine aL (Z:=Unit) (α:=Int) (λz3 x2=>[(3,I x2)]) (λz3 x2=>[]) h (λK h=>?_) (λz3 x2 h=>?_)
  .refine sr (cq (nt (ak ?_)));refine aK (λz5 y4=>[(0,.rep Tl a0),(3,I y4.1),(4,I y4.2)]) (λz5 y4=>[]) (iF k a0) k () (x1,1) (λ_=>rfl) h (SE.fin [] ⟨rfl,rfl,rfl,trivial⟩ rfl) (λn z5 y4 h=>?_);unfold iF at h;refine am (sr ?_);iterate 2 refine mq ?_
   refine ol fD ?_;refine jb (ba rfl) ?_;refine nt (ci h (λh=>?_) (λh=>?_))
   .refine sk (am (ak (ab ?_)));iterate 3 refine mq ?_
    obtain⟨x6,e,h⟩:=aa h;refine jb (aW (t:=Ti) rfl fD cJ e) ?_;refine ja (av (t:=Ti) rfl cJ rfl) ?_;refine jb (Ge rfl rfl) ?_;refine aq (aI (aZ (tn (ab ?_))));refine mq ?_;obtain⟨x7,c,h⟩:=aa h;refine jb (bg rfl c) ?_;refine aq (nl ?_);exact jz ((),(rN y4.1 x6,x7)) h []
   .refine xa ?_;exact jz ((),y4.1) h []
  .refine sr (mq ?_);refine aq (nt (aD ?_));cases h;exact ra
def dz(k:Nat)(a0:(List Int))(a1:(List Int)):Nat->Int->Option (Except Bool Unit)
 |0,_=>none
 |n+1,y3=>
  if y3 < (a0.length:Int) then((aQ a0 y3).bind λx5=>
  (aQ a1 y3).bind λx6=>
  if¬(x5=x6) then(some (.error false)) else((ck (y3+1)).bind λx7=>
  dz k a0 a1 n x7)) else(some (.ok ()))
def eX(k:Nat)(a0:(List Int))(a1:(List Int)):Option Bool:=
 if¬((a0.length:Int)=(a1.length:Int)) then(some false) else(bE (α:=Unit) (dz k a0 a1 k 0) (some) λ_=>
 some true)
theorem im(k:Nat)(a0:(List Int))(a1:(List Int))(r:Bool)(h:eX k a0 a1=some r):
 dB Tryz.prog 32 [.rep Tl a0,.rep Tl a1] [] (λ_:Unit=>(bM [.eq (.bool r)],[])):=by
 unfold eX at h
 replace h:=bu h
 refine dB.of 26 Tryz.func32 rfl Tryz.ntmps32 rfl λS w0=>?_
 refine sr ?_
 refine cq ?_
 refine nt ?_
 refine am ?_
 refine sr ?_
 refine mq ?_
 refine ol fD ?_
 refine mq ?_
 refine ol fD ?_
 refine jb (cG rfl) ?_
 refine nt ?_
 refine cn h (λh=>?_) (λh=>?_)
 .
  refine sr (cq (nt (rx ?_)));cases h;exact ra
 .
  refine sk (dq (Z:=Unit) (α:=Unit) (λz2 x1=>[]) (λz2 x1=>[]) (λe=>e=r) h (λe h=>Option.some.inj h) (λK hR h=>?_) (λz2 x1 h=>?_))
  .refine sr (cq (nt (ak ?_)));refine aK (λz4 y3=>[(0,.rep Tl a0),(1,.rep Tl a1),(5,I y3)]) (λz4 y3=>[]) (dz k a0 a1) k () 0 (λ_=>rfl) h (SE.fin [] ⟨rfl,rfl,rfl,trivial⟩ rfl) (λn z4 y3 h=>?_);unfold dz at h;refine am (sr ?_);iterate 2 refine mq ?_
   refine ol fD ?_;refine jb (ba rfl) ?_;refine nt (ci h (λh=>?_) (λh=>?_))
   .refine sk (am (ak (am (cV ?_))));refine dm ?_;refine dm ?_;obtain⟨x5,l,h⟩:=aa h;refine db (aW (t:=Ti) rfl fD cJ l) ?_;refine da (av (t:=Ti) rfl cJ rfl) ?_;refine dm ?_;refine dm ?_;obtain⟨x6,j,h⟩:=aa h;refine db (aW (t:=Ti) rfl fD cJ j) ?_;refine da (av (t:=Ti) rfl cJ rfl) ?_;refine df eU ?_;refine jb (cG rfl) ?_;refine nt (cn h (λh=>?_) (λh=>?_))
    .refine sr (cq (nt (aD (br (bD (bG ?_))))));obtain rfl:=hR _ h;exact ra
    .refine bp (aZ (tn (ab (mq ?_))));obtain⟨x7,c,h⟩:=aa h;refine jb (bg rfl c) ?_;refine aq (nl ?_);exact jz ((),x7) h []
   .refine xa ?_;exact jz ((),()) h []
  .refine sr (cq (nt (aD ?_)));cases h;exact ra
def iu(k:Nat)(a0:Int)(a1:Int)(a2:Bool):Option bX:=
 some (a0,a1,a2)
theorem jq(k:Nat)(a0:Int)(a1:Int)(a2:Bool)(r:bX)(h:iu k a0 a1 a2=some r):
 dB Tryz.prog 27 [I a0,I a1,.eq (.bool a2)] [] (λ_:Unit=>(bM [.rep bL r],[])):=by
 unfold iu at h
 replace h:=bu h
 refine dB.of 11 Tryz.func27 rfl Tryz.ntmps27 rfl λS w0=>?_
 refine sr ?_
 refine bi rfl rfl rfl (bJ rfl IC N3) trivial λb1=>?_
 refine nt ?_
 refine sr ?_
 iterate 3 refine mq ?_
 refine jc (eu [(0,.tmp 7,_),(1,.tmp 8,_),(2,.tmp 9,_)] rfl Q1 IC Qf (j7 ⟨rfl,rfl,rfl,trivial⟩) rfl) ?_
 refine aV rfl rfl (aS rfl wy trivial rfl rfl) ⟨rfl,rfl,trivial⟩ ?_
 refine nt ?_
 refine aD ?_
 refine ce (jt (a:=.agg (.pair (I a0) (.pair (I a1) (.eq (.bool a2))))) (a':=.rep bL (a0,a1,a2)) (sj (.agg (.pair .int (.pair .int .bool))))) ?_
 cases h
 exact aR () [.rep bL (a0,a1,a2)] 0 ⟨⟨_,_,_,_,_,rfl,(.head _),wy,(vE),rfl⟩,trivial⟩ rfl
def ix(k:Nat)(a0:(List bX)):Option ae:=
 (iu k 1 2 true).bind λr2=>
 (iu k 2 1 false).bind λr3=>
 (iu k 3 3 false).bind λr4=>
 (cM (bW (length [r2,r3,r4]+length a0))).bind λ_=>
 some (4,1,1,2,[[[0,1,2],[3]],[[0,1],[2,3]],[[1,2,3]],[[1,3],[2]]],[r2,r3,r4]++a0)
theorem gK(k:Nat)(a0:(List bX))(r:ae)(h:ix k a0=some r):
 dB Tryz.prog 47 [Rs bL a0] [] (λ_:Unit=>(bM [.rep ay r],[])):=by
 unfold ix at h
 replace h:=bu h
 refine dB.of 24 Tryz.func47 rfl Tryz.ntmps47 rfl λS w0=>?_
 refine sr ?_
 refine bi rfl rfl rfl (bJ rfl Do KO) trivial λb1=>?_
 refine nt ?_
 refine sr ?_
 obtain⟨r2,l,h⟩:=aa h
 have u:=jq k 1 2 true r2 l
 refine jc (aA [.const (.int .i64 (1)),.const (.int .i64 (2)),.const (.bool true)] rfl rfl Kr rfl u) ?_
 obtain⟨r3,j,h⟩:=aa h
 have s:=jq k 2 1 false r3 j
 refine jc (aA [.const (.int .i64 (2)),.const (.int .i64 (1)),.const (.bool false)] rfl rfl Kr rfl s) ?_
 obtain⟨r4,e,h⟩:=aa h
 have n:=jq k 3 3 false r4 e
 refine jc (aA [.const (.int .i64 (3)),.const (.int .i64 (3)),.const (.bool false)] rfl rfl Kr rfl n) ?_
 refine bi rfl rfl rfl (mK (t:=bL) [(.tmp 4,_),(.tmp 5,_),(.tmp 6,_)] [r2,r3,r4] rfl rfl MR (.cons rfl .rep (.cons rfl .rep (.cons rfl .rep .nil))) rfl rfl) ⟨rfl,rfl,rfl,trivial⟩ λv5=>?_
 refine aq ?_
 refine nt ?_
 refine sr ?_
 refine jc (bh (t:=Ti) [(.const (.int .i64 (0)),_),(.const (.int .i64 (1)),_),(.const (.int .i64 (2)),_)] [0,1,2] rfl rfl dD (.cons rfl .int (.cons rfl .int (.cons rfl .int .nil))) rfl rfl) ?_
 refine ja (bh (t:=Ti) [(.const (.int .i64 (3)),_)] [3] rfl rfl dD (.cons rfl .int .nil) rfl rfl) ?_
 refine jb (bh (t:=Tl) [(.tmp 8,_),(.tmp 9,_)] [[0,1,2],[3]] rfl rfl oR (.cons rfl .rep (.cons rfl .rep .nil)) rfl rfl) ?_
 refine jb (bh (t:=Ti) [(.const (.int .i64 (0)),_),(.const (.int .i64 (1)),_)] [0,1] rfl rfl dD (.cons rfl .int (.cons rfl .int .nil)) rfl rfl) ?_
 refine jb (bh (t:=Ti) [(.const (.int .i64 (2)),_),(.const (.int .i64 (3)),_)] [2,3] rfl rfl dD (.cons rfl .int (.cons rfl .int .nil)) rfl rfl) ?_
 refine jb (bh (t:=Tl) [(.tmp 11,_),(.tmp 12,_)] [[0,1],[2,3]] rfl rfl oR (.cons rfl .rep (.cons rfl .rep .nil)) rfl rfl) ?_
 refine jc (bh (t:=Ti) [(.const (.int .i64 (1)),_),(.const (.int .i64 (2)),_),(.const (.int .i64 (3)),_)] [1,2,3] rfl rfl dD (.cons rfl .int (.cons rfl .int (.cons rfl .int .nil))) rfl rfl) ?_
 refine ja (bh (t:=Tl) [(.tmp 14,_)] [[1,2,3]] rfl rfl oR (.cons rfl .rep .nil) rfl rfl) ?_
 refine jb (bh (t:=Ti) [(.const (.int .i64 (1)),_),(.const (.int .i64 (3)),_)] [1,3] rfl rfl dD (.cons rfl .int (.cons rfl .int .nil)) rfl rfl) ?_
 refine ja (bh (t:=Ti) [(.const (.int .i64 (2)),_)] [2] rfl rfl dD (.cons rfl .int .nil) rfl rfl) ?_
 refine jb (bh (t:=Tl) [(.tmp 16,_),(.tmp 17,_)] [[1,3],[2]] rfl rfl oR (.cons rfl .rep (.cons rfl .rep .nil)) rfl rfl) ?_
 refine co rfl (bh (t:=(.slice Tl)) [(.tmp 10,_),(.tmp 13,_),(.tmp 15,_),(.tmp 18,_)] [[[0,1,2],[3]],[[0,1],[2,3]],[[1,2,3]],[[1,3],[2]]] rfl rfl Ai (.cons rfl .rep (.cons rfl .rep (.cons rfl .rep (.cons rfl .rep .nil)))) rfl rfl) ⟨rfl,rfl,rfl,rfl,trivial⟩ ?_
 iterate 2 refine mq ?_
 obtain⟨u6,c,h⟩:=aa h
 refine eC rfl rfl rfl (cL rfl rfl MR (ap c)) ⟨rfl,rfl,trivial⟩ λv7=>?_
 refine eZ (iS [22] ⟨rfl,trivial⟩) ?_
 refine co rfl (eu [(0,.const (.int .i64 (4)),_),(1,.const (.int .i64 (1)),_),(2,.const (.int .i64 (1)),_),(3,.const (.int .i64 (2)),_),(4,.tmp 19,_),(5,.tmp 22,_)] rfl OU Do LS (j7 ⟨rfl,rfl,rfl,rfl,rfl,rfl,trivial⟩) rfl) ⟨rfl,rfl,rfl,rfl,rfl,rfl,trivial⟩ ?_
 refine aV rfl rfl (aS rfl jP trivial rfl rfl) ⟨rfl,rfl,trivial⟩ ?_
 refine nt ?_
 refine aD ?_
 refine ce (jt (a:=.agg (.pair (I 4) (.pair (I 1) (.pair (I 1) (.pair (I 2) (.pair (.rep (.slice (.slice Tl)) [[[0,1,2],[3]],[[0,1],[2,3]],[[1,2,3]],[[1,3],[2]]]) (Rs bL ([r2,r3,r4]++a0)))))))) (a':=.rep ay (4,1,1,2,[[[0,1,2],[3]],[[0,1],[2,3]],[[1,2,3]],[[1,3],[2]]],[r2,r3,r4]++a0)) (sj (.agg (.pair .int (.pair .int (.pair .int (.pair .int (.pair .rep .rep)))))))) ?_
 cases h
 exact aR () [.rep ay (4,1,1,2,[[[0,1,2],[3]],[[0,1],[2,3]],[[1,2,3]],[[1,3],[2]]],[r2,r3,r4]++a0)] 0 ⟨⟨_,_,_,_,_,rfl,(.head _),jP,(vE),rfl⟩,trivial⟩ rfl
def fJ(k:Nat):Nat->((List Int)×Int×Int)->Option (List Int)
 |0,_=>none
 |n+1,y2=>
  if y2.2.1 < y2.2.2 then((aQ y2.1 y2.2.2).bind λx4=>
  (aQ y2.1 y2.2.1).bind λx5=>
  (aQ y2.1 y2.2.1).bind λx6=>
  (aQ (List.set y2.1 (Int.toNat y2.2.1) x4) y2.2.2).bind λx7=>
  (ck (y2.2.1+1)).bind λx8=>
  (ck (y2.2.2 - 1)).bind λx9=>
  fJ k n (List.set (List.set y2.1 (Int.toNat y2.2.1) x4) (Int.toNat y2.2.2) x5,x8,x9)) else(some y2.1)
def jR(k:Nat)(a0:(List Int)):Option (List Int):=
 (ck ((a0.length:Int) - 1)).bind λx1=>
 fJ k k (a0,0,x1)
theorem pr(k:Nat)(a0:(List Int))(c:Value)(r:(List Int))(h:jR k a0=some r):
 dB Tryz.prog 81 [.eq c] [.sl c 3 Ti a0] (λ_:Unit=>(bM [],[.sl c 3 Ti r])):=by
 unfold jR at h
 replace h:=bu h
 refine dB.of 28 Tryz.func81 rfl Tryz.ntmps81 rfl λS w0=>?_
 refine sr ?_
 refine mq ?_
 refine ka (me rfl rfl fD) ?_
 obtain⟨x1,mc,h⟩:=aa h
 refine jb (eG rfl mc) ?_
 refine cq ?_
 refine aq ?_
 refine nt ?_
 refine ak ?_
 refine aK (λz3 y2=>[(0,.eq c),(2,I y2.2.1),(3,I y2.2.2)]) (λz3 y2=>[.sl c 3 Ti y2.1]) (fJ k) k () (a0,0,x1) (λ_=>rfl) h (SE.fin [0] ⟨rfl,rfl,rfl,trivial⟩ rfl) (λn z3 y2 h=>?_)
 unfold fJ at h
 refine am ?_
 refine sr ?_
 iterate 2 refine mq ?_
 refine jb (ba rfl) ?_
 refine nt ?_
 refine ci h (λh=>?_) (λh=>?_)
 .
  refine sk (am (ak (qP ?_)));refine cH rfl rfl rfl (bS rfl) ⟨rfl,trivial⟩ ?_;refine cH rfl rfl rfl (bS rfl) ⟨rfl,trivial⟩ ?_;refine cH rfl rfl rfl (bS rfl) ⟨rfl,trivial⟩ ?_;refine cH rfl rfl rfl (bS rfl) ⟨rfl,trivial⟩ ?_;refine cH rfl rfl rfl (bS rfl) ⟨rfl,trivial⟩ ?_;refine cH rfl rfl rfl (bS rfl) ⟨rfl,trivial⟩ ?_;obtain⟨x4,D,h⟩:=aa h;refine iU 0 rfl rfl rfl rfl (cK (t:=Ti) rfl fD cJ D) ⟨rfl,rfl,trivial⟩ ?_;refine iU 0 rfl rfl rfl rfl (gJ (i:=Int.toNat y2.2.2) (off:=0) rfl cJ (λ_=>rfl) rfl (dG D).2.2 rfl) ⟨rfl,trivial⟩ ?_;refine cH rfl rfl rfl (bS rfl) ⟨rfl,trivial⟩ ?_;refine cH rfl rfl rfl (bS rfl) ⟨rfl,trivial⟩ ?_;obtain⟨x5,y,h⟩:=aa h;refine iU 0 rfl rfl rfl rfl (cK (t:=Ti) rfl fD cJ y) ⟨rfl,rfl,trivial⟩ ?_;refine iU 0 rfl rfl rfl rfl (gJ (i:=Int.toNat y2.2.1) (off:=0) rfl cJ (λ_=>rfl) rfl (dG y).2.2 rfl) ⟨rfl,trivial⟩ ?_;obtain⟨x6,x,h⟩:=aa h;refine iU 0 rfl rfl rfl rfl (cK (t:=Ti) rfl fD cJ x) ⟨rfl,rfl,trivial⟩ ?_;refine xM 13 [true,true,false,false,true,true,true,true,true,true,true,true,true] [27] [] [] rfl (by kernel_rfl) (by kernel_rfl) (by kernel_rfl) eU (λvs hv hB=>?_);obtain⟨w0,TY,rfl,Y⟩:=aG hv;obtain⟨w1,TX,rfl,X⟩:=aG Y;obtain⟨w2,TW,rfl,U⟩:=aG X;obtain⟨w3,TV,rfl,Q⟩:=aG U;obtain⟨w4,TU,rfl,O⟩:=aG Q;obtain⟨w5,TS,rfl,M⟩:=aG O;obtain⟨w6,TR,rfl,J⟩:=aG M;obtain⟨w7,TP,rfl,F⟩:=aG J;obtain⟨w8,TO,rfl,E⟩:=aG F;obtain⟨w9,TK,rfl,s⟩:=aG E;obtain⟨TN,zz,rfl,l⟩:=aG s;obtain⟨TM,qt,rfl,j⟩:=aG l;obtain⟨TL,mw,rfl,e⟩:=aG j;obtain rfl:=s6 e;refine⟨[0],[.sl c 3 Ti y2.1],by kernel_rfl,by decide,?_⟩;refine sc rfl rfl (gk (i:=Int.toNat y2.2.1) rfl cJ rfl (mU x) rfl .int rfl) ⟨rfl,rfl,trivial⟩ (by kernel_rfl) ?_;obtain⟨x7,u,h⟩:=aa h;refine Br rfl rfl rfl rfl (cK (t:=Ti) rfl fD cJ u) ⟨rfl,rfl,trivial⟩ (by kernel_rfl) ?_;refine sc rfl rfl (gk (i:=Int.toNat y2.2.2) rfl cJ rfl (mU u) rfl .int rfl) ⟨rfl,rfl,trivial⟩ (by kernel_rfl) ?_;refine xI ?_;refine ce (SE.fin (Γ':=[(0,.eq c),(2,I y2.2.1),(3,I y2.2.2)]) (Δ':=[.sl c 3 Ti (List.set (List.set y2.1 (Int.toNat y2.2.1) x4) (Int.toNat y2.2.2) x5)]) [0] ⟨rfl,rfl,rfl,trivial⟩ rfl) ?_;refine aZ (tn (ab (mq ?_)));obtain⟨x8,gw,h⟩:=aa h;refine jb (bg rfl gw) ?_;refine mq ?_;obtain⟨x9,Z,h⟩:=aa h;refine jb (eG rfl Z) ?_;refine aq ?_;refine aq (nl ?_);exact jz ((),(List.set (List.set y2.1 (Int.toNat y2.2.1) x4) (Int.toNat y2.2.2) x5,x8,x9)) h [0]
 .
  refine fg (bK (bK (cX (jM ?_))));cases h;exact aR () [] 1 trivial rfl
def km(k:Nat)(a0:Int):Option Int:=
 (fO k a0).bind λr1=>
 some (r1.length:Int)
theorem nh(k:Nat)(a0:Int)(r:Int)(h:km k a0=some r):
 dB Tryz.prog 88 [.eq (.int .u8 a0)] [] (λ_:Unit=>(bM [I r],[])):=by
 unfold km at h
 replace h:=bu h
 refine dB.of 6 Tryz.func88 rfl Tryz.ntmps88 rfl λS w0=>?_
 refine sr ?_
 refine cq ?_
 refine nt ?_
 refine sr ?_
 refine mq ?_
 obtain⟨r1,c,h⟩:=aa h
 have e:=jX k a0 r1 c
 refine ja (aA [.tmp 3] rfl rfl NL rfl e) ?_
 refine ol fD ?_
 refine aq ?_
 refine nt ?_
 refine aD ?_
 cases h
 exact ra
def mQ(k:Nat)(a0:Int)(a1:Int):Option Int:=
 (km k a0).bind λr1=>
 (km k a1).bind λr2=>
 (ck (r1 - r2)).bind λx3=>
 some x3
theorem sL(k:Nat)(a0:Int)(a1:Int)(c:Nat)(r:Int)(h:mQ k a0 a1=some r):
 dB Tryz.prog 116 [.eq (.int .u8 a0),.eq (.int .u8 a1),Pt c] [.obj c 140 (.eq (.func (.func 88) #[] #[]))] (λ_:Unit=>(bM [I r],[.obj c 140 (.eq (.func (.func 88) #[] #[]))])):=by
 unfold mQ at h
 replace h:=bu h
 refine dB.of 13 Tryz.func116 rfl Tryz.ntmps116 rfl λS w0=>?_
 refine sr ?_
 refine cq ?_
 refine nt ?_
 refine am ?_
 refine cV ?_
 refine ea 0 (aE rfl LC oU rfl) ?_
 refine dm ?_
 obtain⟨r1,l,h⟩:=aa h
 have s:=nh k a0 r1 l
 refine db (sZ (fs:=[]) (cs:=[]) (ags:=[.eq (.int .u8 a0)]) [.tmp 7] rfl rfl PP rfl s) ?_
 refine ea 0 (aE rfl LC oU rfl) ?_
 refine dm ?_
 refine df eU ?_
 obtain⟨r2,j,h⟩:=aa h
 have n:=nh k a1 r2 j
 refine jb (sZ (fs:=[]) (cs:=[]) (ags:=[.eq (.int .u8 a1)]) [.tmp 10] rfl rfl PP rfl n) ?_
 obtain⟨x3,e,h⟩:=aa h
 refine jb (eG rfl e) ?_
 refine aq ?_
 refine nt ?_
 refine aD ?_
 cases h
 exact aR () [_] 1 ⟨rfl,trivial⟩ rfl
def fK(k:Nat)(a0:(List Int)):Nat->(Int×Int)->Option Int
 |0,_=>none
 |n+1,y4=>
  if y4.2 < (a0.length:Int) then((((aQ a0 y4.2).bind λx8=>
  (mQ k x8 y4.1).bind λr9=>
  if r9 < 0 then((aQ a0 y4.2).bind λe=>
  some e) else(some y4.1)):Option (Int)).bind λx6=>
  (ck (y4.2+1)).bind λc=>
  fK k a0 n (x6,c)) else(some y4.1)
def jS(k:Nat)(a0:(List Int)):Option Int:=
 if(a0.length:Int) < 1 then(none) else((aQ a0 0).bind λx1=>
 ((fK k a0 k (x1,1)):Option (Int)).bind λx2=>
 some x2)
theorem pu(k:Nat)(a0:(List Int))(c_a1_0:Nat)(r:Int)(h:jS k a0=some r):
 dB Tryz.prog 115 [.rep (.slice (.int .u8)) a0,.eq (.func (.func 116) #[] #[(Pv c_a1_0)])] [.obj c_a1_0 140 (.eq (.func (.func 88) #[] #[]))] (λ_:Unit=>(bM [.eq (.int .u8 r)],[.obj c_a1_0 140 (.eq (.func (.func 88) #[] #[]))])):=by
 unfold jS at h
 replace h:=bu h
 refine dB.of 33 Tryz.func115 rfl Tryz.ntmps115 rfl λS w0=>?_
 refine sr ?_
 refine cq ?_
 refine nt ?_
 refine am ?_
 refine sr ?_
 refine mq ?_
 refine ol zU ?_
 refine jb (ba rfl) ?_
 refine nt ?_
 refine ci h (λh=>?_) (λh=>?_)
 .
  cases h
 .
  refine sk (sr (mq ?_));obtain⟨x1,u,h⟩:=aa h;refine jb (aW (t:=(.int .u8)) rfl zU pn u) ?_;refine ja (av (t:=(.int .u8)) rfl pn rfl) ?_;refine aq (nt ?_);refine aL (Z:=Unit) (α:=Int) (λz3 x2=>[(5,.eq (.int .u8 x2))]) (λz3 x2=>[.obj c_a1_0 140 (.eq (.func (.func 88) #[] #[]))]) h (λK h=>?_) (λz3 x2 h=>?_)
  .refine sr (cq (nt (ak ?_)));refine aK (λz5 y4=>[(0,.rep (.slice (.int .u8)) a0),(1,.eq (.func (.func 116) #[] #[(Pv c_a1_0)])),(5,.eq (.int .u8 y4.1)),(6,I y4.2)]) (λz5 y4=>[.obj c_a1_0 140 (.eq (.func (.func 88) #[] #[]))]) (fK k a0) k () (x1,1) (λ_=>rfl) h (SE.fin [0] ⟨rfl,rfl,rfl,rfl,trivial⟩ rfl) (λn z5 y4 h=>?_);unfold fK at h;refine am (sr ?_);iterate 2 refine mq ?_
   refine ol zU ?_;refine jb (ba rfl) ?_;refine nt (ci h (λh=>?_) (λh=>?_))
   .refine sk (aL (Z:=Unit) (α:=Int) (λz7 x6=>[(0,.rep (.slice (.int .u8)) a0),(1,.eq (.func (.func 116) #[] #[(Pv c_a1_0)])),(5,.eq (.int .u8 x6)),(6,I y4.2)]) (λz7 x6=>[.obj c_a1_0 140 (.eq (.func (.func 88) #[] #[]))]) h (λK h=>?_) (λz7 x6 h=>?_))
    .refine ak (sr ?_);iterate 3 refine mq ?_
     obtain⟨x8,s,h⟩:=aa h;refine jb (aW (t:=(.int .u8)) rfl zU pn s) ?_;refine ja (av (t:=(.int .u8)) rfl pn rfl) ?_;refine mq ?_;obtain⟨r9,x,h⟩:=aa h;refine kc (sZ (fs:=[]) (cs:=[(Pv c_a1_0)]) (ags:=[.eq (.int .u8 x8),.eq (.int .u8 y4.1)]) [.tmp 24,.tmp 25] rfl rfl P4 rfl (sL k x8 y4.1 c_a1_0 r9 x)) ?_;refine jb (ba rfl) ?_;refine nt (ci h (λh=>?_) (λh=>?_))
     .refine ab ?_;iterate 2 refine mq ?_
      obtain⟨l,e,h⟩:=aa h;refine jb (aW (t:=(.int .u8)) rfl zU pn e) ?_;refine ja (av (t:=(.int .u8)) rfl pn rfl) ?_;refine aq (aI (bn ?_));exact jz ((),l) h [0]
     .refine bp (bn ?_);exact jz ((),y4.1) h [0]
    .refine ab (mq ?_);obtain⟨j,c,h⟩:=aa h;refine jb (bg rfl c) ?_;refine aq (nl ?_);exact jz ((),(x6,j)) h [0]
   .refine xa ?_;exact jz ((),y4.1) h [0]
  .refine sr (mq ?_);refine aq (nt (aD ?_));cases h;exact aR () [_] 1 ⟨rfl,trivial⟩ rfl
def pE(k:Nat)(a0:(List Int)):Option Int:=
 (jS k a0).bind λr2=>
 some r2
theorem uZ(k:Nat)(a0:(List Int))(r:Int)(h:pE k a0=some r):
 dB Tryz.prog 87 [.rep (.slice (.int .u8)) a0,.eq (.func (.func 88) #[] #[])] [] (λ_:Unit=>(bM [.eq (.int .u8 r)],[])):=by
 unfold pE at h
 replace h:=bu h
 refine dB.of 8 Tryz.func87 rfl Tryz.ntmps87 rfl λS w0=>?_
 refine sr ?_
 refine bx λb1=>?_
 refine cq ?_
 refine nt ?_
 refine sr ?_
 refine mq ?_
 refine ja (rl [] [.tmp 3] [] [(Pv b1)] rfl rfl rfl) ?_
 obtain⟨r2,c,h⟩:=aa h
 have e:=pu k a0 b1 r2 c
 refine kb (aA [.tmp 5,.tmp 6] rfl rfl P5 rfl e) ?_
 refine aq ?_
 refine nt ?_
 refine aD ?_
 cases h
 exact ra
def gP(k:Nat)(a0:(List (List Int)))(a1:(List (List Int))):Nat->Int->Option (Except Bool Unit)
 |0,_=>none
 |n+1,y3=>
  if y3 < (a0.length:Int) then((aQ a0 y3).bind λx5=>
  (aQ a1 y3).bind λx6=>
  (eX k x5 x6).bind λr7=>
  if¬(r7=true) then(some (.error false)) else((ck (y3+1)).bind λx8=>
  gP k a0 a1 n x8)) else(some (.ok ()))
def jr(k:Nat)(a0:(List (List Int)))(a1:(List (List Int))):Option Bool:=
 if¬((a0.length:Int)=(a1.length:Int)) then(some false) else(bE (α:=Unit) (gP k a0 a1 k 0) (some) λ_=>
 some true)
theorem mr(k:Nat)(a0:(List (List Int)))(a1:(List (List Int)))(r:Bool)(h:jr k a0 a1=some r):
 dB Tryz.prog 51 [.rep (.slice Tl) a0,.rep (.slice Tl) a1] [] (λ_:Unit=>(bM [.eq (.bool r)],[])):=by
 unfold jr at h
 replace h:=bu h
 refine dB.of 27 Tryz.func51 rfl Tryz.ntmps51 rfl λS w0=>?_
 refine sr ?_
 refine cq ?_
 refine nt ?_
 refine am ?_
 refine sr ?_
 refine mq ?_
 refine ol qL ?_
 refine mq ?_
 refine ol qL ?_
 refine jb (cG rfl) ?_
 refine nt ?_
 refine cn h (λh=>?_) (λh=>?_)
 .
  refine sr (cq (nt (rx ?_)));cases h;exact ra
 .
  refine sk (dq (Z:=Unit) (α:=Unit) (λz2 x1=>[]) (λz2 x1=>[]) (λe=>e=r) h (λe h=>Option.some.inj h) (λK hR h=>?_) (λz2 x1 h=>?_))
  .refine sr (cq (nt (ak ?_)));refine aK (λz4 y3=>[(0,.rep (.slice Tl) a0),(1,.rep (.slice Tl) a1),(5,I y3)]) (λz4 y3=>[]) (gP k a0 a1) k () 0 (λ_=>rfl) h (SE.fin [] ⟨rfl,rfl,rfl,trivial⟩ rfl) (λn z4 y3 h=>?_);unfold gP at h;refine am (sr ?_);iterate 2 refine mq ?_
   refine ol qL ?_;refine jb (ba rfl) ?_;refine nt (ci h (λh=>?_) (λh=>?_))
   .refine sk (am (ak (am (cV ?_))));refine dm ?_;refine dm ?_;obtain⟨x5,l,h⟩:=aa h;refine db (aW (t:=Tl) rfl qL gY l) ?_;refine da (av (t:=Tl) rfl gY rfl) ?_;refine dm ?_;refine dm ?_;obtain⟨x6,j,h⟩:=aa h;refine db (aW (t:=Tl) rfl qL gY j) ?_;refine da (av (t:=Tl) rfl gY rfl) ?_;refine df eU ?_;obtain⟨r7,s,h⟩:=aa h;refine jb (aA [.tmp 20,.tmp 24] rfl rfl Kq rfl (im k x5 x6 r7 s)) ?_;refine ja (iY rfl) ?_;refine nt (cw h (λh=>?_) (λh=>?_))
    .refine sr (cq (nt (aD (br (bD (bG ?_))))));obtain rfl:=hR _ h;exact ra
    .refine bp (aZ (tn (ab (mq ?_))));obtain⟨x8,c,h⟩:=aa h;refine jb (bg rfl c) ?_;refine aq (nl ?_);exact jz ((),x8) h []
   .refine xa ?_;exact jz ((),()) h []
  .refine sr (cq (nt (aD ?_)));cases h;exact ra
def fp(k:Nat)(a1:Int):Nat->((List Int)×Int×Int×(List Int)×Int)->Option ((List Int)×(List Int)×Int×Int)
 |0,_=>none
 |n+1,y3=>
  if y3.2.2.2.2 < a1 then((((fa k (y3.1,y3.2.1,y3.2.2.1) 3).bind λr7=>
  if r7.1=true then((cM (bW (length y3.2.2.2.1+length [y3.2.2.2.2]))).bind λ_=>
  some (r7.2.1,r7.2.2.1,r7.2.2.2,y3.2.2.2.1++[y3.2.2.2.2])) else(some (r7.2.1,r7.2.2.1,r7.2.2.2,y3.2.2.2.1))):Option ((List Int)×Int×Int×(List Int))).bind λx5=>
  (ck (y3.2.2.2.2+1)).bind λc=>
  fp k a1 n (x5.1,x5.2.1,x5.2.2.1,x5.2.2.2,c)) else(some (y3.2.2.2.1,y3.1,y3.2.1,y3.2.2.1))
def jD(k:Nat)(a0:cx)(a1:Int):Option ((List Int)×cx):=
 ((fp k a1 k (a0.1,a0.2.1,a0.2.2,([]:(List Int)),0)):Option ((List Int)×(List Int)×Int×Int)).bind λx1=>
 some (x1.1,(x1.2.1,x1.2.2.1,x1.2.2.2))
theorem t6(k:Nat)(a0:cx)(c:Nat)(a1:Int)(r:(List Int)×cx)(h:jD k a0 a1=some r):
 dB Tryz.prog 24 [Pt c,I a1] [.obj c 71 (.agg (.pair (.rep Tl a0.1) (.pair (I a0.2.1) (.eq (.int .u64 a0.2.2)))))] (λ_:Unit=>(bM [.rep Tl r.1],[.obj c 71 (.agg (.pair (.rep Tl r.2.1) (.pair (I r.2.2.1) (.eq (.int .u64 r.2.2.2)))))])):=by
 unfold jD at h
 replace h:=bu h
 refine dB.of 19 Tryz.func24 rfl Tryz.ntmps24 rfl λS w0=>?_
 refine sr ?_
 refine cq ?_
 refine nt ?_
 refine sr ?_
 refine cq ?_
 refine nt ?_
 refine aL (Z:=Value) (α:=(List Int)×(List Int)×Int×Int) (λz2 x1=>[(5,.eq z2)]) (λz2 x1=>[.sl z2 3 Ti x1.1,.obj c 71 (.agg (.pair (.rep Tl x1.2.1) (.pair (I x1.2.2.1) (.eq (.int .u64 x1.2.2.2)))))]) h (λK h=>?_) (λz2 x1 h=>?_)
 .
  refine sr (cq (nt (ak ?_)));refine jN (SE.nil 3 Ti) ?_;refine aK (λz4 y3=>[(0,Pt c),(1,I a1),(5,.eq z4),(6,I y3.2.2.2.2)]) (λz4 y3=>[.obj c 71 (.agg (.pair (.rep Tl y3.1) (.pair (I y3.2.1) (.eq (.int .u64 y3.2.2.1))))),.sl z4 3 Ti y3.2.2.2.1]) (fp k a1) k (.slice none 0 0) (a0.1,a0.2.1,a0.2.2,([]:(List Int)),0) (λ_=>rfl) h (SE.fin [1,0] ⟨rfl,rfl,rfl,rfl,trivial⟩ rfl) (λn z4 y3 h=>?_);unfold fp at h;refine am (sr ?_);iterate 2 refine mq ?_
  refine jb (ba rfl) ?_;refine nt (ci h (λh=>?_) (λh=>?_))
  .refine sk (aL (Z:=Value) (α:=(List Int)×Int×Int×(List Int)) (λz6 x5=>[(0,Pt c),(1,I a1),(5,.eq z6),(6,I y3.2.2.2.2)]) (λz6 x5=>[.obj c 71 (.agg (.pair (.rep Tl x5.1) (.pair (I x5.2.1) (.eq (.int .u64 x5.2.2.1))))),.sl z6 3 Ti x5.2.2.2]) h (λK h=>?_) (λz6 x5 h=>?_))
   .refine ak (sr (mq ?_));obtain⟨r7,s,h⟩:=aa h;refine kb (aA [.tmp 12,.const (.int .i64 (3))] rfl rfl NK rfl (jf k (y3.1,y3.2.1,y3.2.2.1) c 3 r7 s)) ?_;refine nt (cv h (λh=>?_) (λh=>?_))
    .refine ab ?_;iterate 2 refine mq ?_
     refine ja (bh (t:=Ti) [(.tmp 15,_)] [y3.2.2.2.2] rfl rfl dD (.cons rfl .int .nil) rfl rfl) ?_;obtain⟨u8,l,h⟩:=aa h;refine fr 1 ?_;refine eC rfl rfl rfl (cL rfl rfl dD (ap l)) ⟨rfl,rfl,trivial⟩ λv9=>?_;refine aq (aI (bn ?_));exact jz (v9,(r7.2.1,r7.2.2.1,r7.2.2.2,y3.2.2.2.1++[y3.2.2.2.2])) h [1,0]
    .refine bp (bn ?_);exact jz (z4,(r7.2.1,r7.2.2.1,r7.2.2.2,y3.2.2.2.1)) h [0,1]
   .refine ab (mq ?_);obtain⟨j,e,h⟩:=aa h;refine jb (bg rfl e) ?_;refine aq (nl ?_);exact jz (z6,(x5.1,x5.2.1,x5.2.2.1,x5.2.2.2,j)) h [0,1]
  .refine xa ?_;exact jz (z4,(y3.2.2.2.1,y3.1,y3.2.1,y3.2.2.1)) h [1,0]
 .
  refine sr (mq ?_);refine aq (nt (aD ?_));refine ce (iS [4,5,18] ⟨rfl,rfl,rfl,trivial⟩) ?_;cases h;exact aR () [_] 1 ⟨rfl,trivial⟩ rfl
def eW(k:Nat)(a0:(List (List Int)))(a1:(List Int)):Nat->Int->Option (Except Bool Unit)
 |0,_=>none
 |n+1,y3=>
  if y3 < (a0.length:Int) then((aQ a0 y3).bind λx5=>
  (eX k x5 a1).bind λr6=>
  if r6=true then(some (.error true)) else((ck (y3+1)).bind λx7=>
  eW k a0 a1 n x7)) else(some (.ok ()))
def mm(k:Nat)(a0:(List (List Int)))(a1:(List Int)):Option Bool:=
 bE (α:=Unit) (eW k a0 a1 k 0) (some) λ_=>
 some false
theorem wY(k:Nat)(a0:(List (List Int)))(a1:(List Int))(r:Bool)(h:mm k a0 a1=some r):
 dB Tryz.prog 21 [.rep (.slice Tl) a0,.rep Tl a1] [] (λ_:Unit=>(bM [.eq (.bool r)],[])):=by
 unfold mm at h
 replace h:=bu h
 refine dB.of 18 Tryz.func21 rfl Tryz.ntmps21 rfl λS w0=>?_
 refine sr ?_
 refine cq ?_
 refine nt ?_
 refine dq (Z:=Unit) (α:=Unit) (λz2 x1=>[]) (λz2 x1=>[]) (λe=>e=r) h (λe h=>Option.some.inj h) (λK hR h=>?_) (λz2 x1 h=>?_)
 .
  refine sr (cq (nt (ak ?_)));refine aK (λz4 y3=>[(0,.rep (.slice Tl) a0),(1,.rep Tl a1),(5,I y3)]) (λz4 y3=>[]) (eW k a0 a1) k () 0 (λ_=>rfl) h (SE.fin [] ⟨rfl,rfl,rfl,trivial⟩ rfl) (λn z4 y3 h=>?_);unfold eW at h;refine am (sr ?_);iterate 2 refine mq ?_
  refine ol qL ?_;refine jb (ba rfl) ?_;refine nt (ci h (λh=>?_) (λh=>?_))
  .refine sk (am (ak (sr ?_)));iterate 2 refine mq ?_
   obtain⟨x5,j,h⟩:=aa h;refine jb (aW (t:=Tl) rfl qL gY j) ?_;refine ja (av (t:=Tl) rfl gY rfl) ?_;refine mq ?_;obtain⟨r6,l,h⟩:=aa h;refine jb (aA [.tmp 15,.tmp 16] rfl rfl Kq rfl (im k x5 a1 r6 l)) ?_;refine nt (cv h (λh=>?_) (λh=>?_))
   .refine sr (cq (nt (aD (br (bD (bG ?_))))));obtain rfl:=hR _ h;exact ra
   .refine bp (aZ (tn (ab (mq ?_))));obtain⟨x7,c,h⟩:=aa h;refine jb (bg rfl c) ?_;refine aq (nl ?_);exact jz ((),x7) h []
  .refine xa ?_;exact jz ((),()) h []
 .
  refine sr (cq (nt (aD ?_)));cases h;exact ra
def dJ(k:Nat)(a2:Int)(e:(List Int)):Nat->Int->Option (Except ((List Int)×Bool) Unit)
 |0,_=>none
 |n+1,c=>
  if c < (e.length:Int) then((aQ e c).bind λD=>
  if¬(D=a2) then((ck (c+1)).bind λy=>
  dJ k a2 e n y) else(((if 0 < c then((ck (c - 1)).bind λx=>
  (aQ e x).bind λl=>
  (cM (bW (length ([]:(List Int))+length [l]))).bind λ_=>
  some (([]:(List Int))++[l])) else(some ([]:(List Int)))):Option ((List Int))).bind λh=>
  (((ck (c+1)).bind λs=>
  if s < (e.length:Int) then((ck (c+1)).bind λr=>
  (aQ e r).bind λj=>
  (cM (bW (length h+length [j]))).bind λ_=>
  some (h++[j])) else(some h)):Option ((List Int))).bind λu=>
  some (.error (u,true)))) else(some (.ok ()))
def ee(k:Nat)(a0:ae)(a1:Int)(a2:Int):Nat->Int->Option (Except ((List Int)×Bool) Unit)
 |0,_=>none
 |n+1,y4=>
  (aQ a0.2.2.2.2.1 a1).bind λx6=>
  if y4 < (x6.length:Int) then(bE (α:=Unit) ((aQ a0.2.2.2.2.1 a1).bind λx9=>
  (aQ x9 y4).bind λh=>
  dJ k a2 h k 0) (λe=>some (.error e)) λ_=>
  (ck (y4+1)).bind λc=>
  ee k a0 a1 a2 n c) else(some (.ok ()))
def kR(k:Nat)(a0:ae)(a1:Int)(a2:Int):Option ((List Int)×Bool):=
 bE (α:=Unit) (ee k a0 a1 a2 k 0) (some) λ_=>
 some (([]:(List Int)),false)
theorem uQ(k:Nat)(a0:ae)(a1:Int)(a2:Int)(r:(List Int)×Bool)(h:kR k a0 a1 a2=some r):
 dB Tryz.prog 25 [.rep ay a0,I a1,I a2] [] (λ_:Unit=>(bM [.rep Tl r.1,.eq (.bool r.2)],[])):=by
 unfold kR at h
 replace h:=bu h
 refine dB.of 66 Tryz.func25 rfl Tryz.ntmps25 rfl λS w0=>?_
 refine sr ?_
 refine bx λb1=>?_
 refine cq ?_
 refine cq ?_
 refine nt ?_
 refine dq (Z:=Unit) (α:=Unit) (λz3 x2=>[]) (λz3 x2=>[]) (λe=>e=r) h (λe h=>Option.some.inj h) (λK hR h=>?_) (λz3 x2 h=>?_)
 .
  refine sr (cq (nt (ak ?_)));refine aK (λz5 y4=>[(1,I a1),(2,I a2),(3,Pt b1),(8,I y4)]) (λz5 y4=>[.obj b1 26 (.rep ay a0)]) (ee k a0 a1 a2) k () 0 (λ_=>rfl) h (SE.fin [0] ⟨rfl,rfl,rfl,rfl,trivial⟩ rfl) (λn z5 y4 h=>?_);unfold ee at h;refine am (sr (mq ?_));refine fl dZ ?_;refine lo jQ ?_;refine mq ?_;obtain⟨x6,TO,h⟩:=aa h;refine jb (aW (t:=(.slice Tl)) rfl xF sG TO) ?_;refine ja (av (t:=(.slice Tl)) rfl sG rfl) ?_;refine ol qL ?_;refine jb (ba rfl) ?_;refine nt (ci h (λh=>?_) (λh=>?_))
  .refine sk (dq (Z:=Unit) (α:=Unit) (λz8 x7=>[(1,I a1),(2,I a2),(3,Pt b1),(8,I y4)]) (λz8 x7=>[.obj b1 26 (.rep ay a0)]) (λe=>e=r) h (λe h=>hR e h) (λK hR h=>?_) (λz8 x7 h=>?_))
   .refine ak (sr (fl dZ ?_));refine lo jQ ?_;refine mq ?_;obtain⟨x9,TN,h⟩:=aa h;refine jb (aW (t:=(.slice Tl)) rfl xF sG TN) ?_;refine ja (av (t:=(.slice Tl)) rfl sG rfl) ?_;refine mq ?_;obtain⟨y,mc,h⟩:=aa h;refine jb (aW (t:=Tl) rfl qL gY mc) ?_;refine ja (av (t:=Tl) rfl gY rfl) ?_;refine aq (nt (sr ?_));refine cq (nt (ak ?_));refine aK (λD s=>[(1,I a1),(2,I a2),(3,Pt b1),(8,I y4),(9,.rep Tl y),(10,I s)]) (λD s=>[.obj b1 26 (.rep ay a0)]) (dJ k a2 y) k () 0 (λ_=>rfl) h (SE.fin [0] ⟨rfl,rfl,rfl,rfl,rfl,rfl,trivial⟩ rfl) (λn D s h=>?_);unfold dJ at h;refine am (sr ?_);iterate 2 refine mq ?_
    refine ol fD ?_;refine jb (ba rfl) ?_;refine nt (ci h (λh=>?_) (λh=>?_))
    .refine sk (am (ak (am (sr ?_))));iterate 2 refine mq ?_
     obtain⟨TU,gw,h⟩:=aa h;refine jb (aW (t:=Ti) rfl fD cJ gw) ?_;refine ja (av (t:=Ti) rfl cJ rfl) ?_;refine mq ?_;refine jb (cG rfl) ?_;refine nt (cn h (λh=>?_) (λh=>?_))
     .refine fg (bK (cX (tn (ab (mq ?_)))));obtain⟨TK,Y,h⟩:=aa h;refine jb (bg rfl Y) ?_;refine aq (nl ?_);exact jz ((),TK) h [0]
     .refine sk (sr (cq (nt ?_)));refine aL (Z:=Value) (α:=(List Int)) (λc j=>[(9,.rep Tl y),(10,I s),(11,.eq c)]) (λc j=>[.sl c 3 Ti j]) h (λK h=>?_) (λc j h=>?_)
      .refine sr (mq ?_);refine jb (mf rfl) ?_;refine nt (ci h (λh=>?_) (λh=>?_))
       .refine ab ?_;iterate 3 refine mq ?_
        obtain⟨TS,X,h⟩:=aa h;refine jb (eG rfl X) ?_;obtain⟨F,U,h⟩:=aa h;refine jb (aW (t:=Ti) rfl fD cJ U) ?_;refine ja (av (t:=Ti) rfl cJ rfl) ?_;refine ja (bh (t:=Ti) [(.tmp 49,_)] [F] rfl rfl dD (.cons rfl .int .nil) rfl rfl) ?_;refine eZ (SE.nil 3 Ti) ?_;obtain⟨TW,qt,h⟩:=aa h;refine eC rfl rfl rfl (cL rfl rfl dD (ap qt)) ⟨rfl,rfl,trivial⟩ λTM=>?_;refine aq (nl ?_);exact jz (TM,([]:(List Int))++[F]) h [0]
       .refine bp (ao (ce (SE.nil 3 Ti) ?_));exact jz ((.slice none 0 0),([]:(List Int))) h [0]
      .refine aL (Z:=Value) (α:=(List Int)) (λl u=>[(11,.eq l)]) (λl u=>[.sl l 3 Ti u]) h (λK h=>?_) (λl u h=>?_)
       .refine sr (mq ?_);obtain⟨TR,Q,h⟩:=aa h;refine jb (bg rfl Q) ?_;refine mq ?_;refine ol fD ?_;refine jb (ba rfl) ?_;refine nt (ci h (λh=>?_) (λh=>?_))
        .refine ab ?_;iterate 3 refine mq ?_
         obtain⟨TP,O,h⟩:=aa h;refine jb (bg rfl O) ?_;obtain⟨E,M,h⟩:=aa h;refine jb (aW (t:=Ti) rfl fD cJ M) ?_;refine ja (av (t:=Ti) rfl cJ rfl) ?_;refine ja (bh (t:=Ti) [(.tmp 62,_)] [E] rfl rfl dD (.cons rfl .int .nil) rfl rfl) ?_;obtain⟨TV,mw,h⟩:=aa h;refine eC rfl rfl rfl (cL rfl rfl dD (ap mw)) ⟨rfl,rfl,trivial⟩ λTL=>?_;refine aq (nl ?_);exact jz (TL,j++[E]) h [0]
        .refine bp (ao ?_);exact jz (c,j) h [0]
       .refine sr (mq ?_);refine aq ?_;refine cq (nt (aD (br (bD (br (bD (bG ?_)))))));refine ce (iS [6,11,65] ⟨rfl,rfl,rfl,trivial⟩) ?_;obtain rfl:=hR _ h;exact rb
    .refine fg (bK (bK (cX (bn ?_))));exact jz ((),()) h [0]
   .refine ab (mq ?_);obtain⟨zz,J,h⟩:=aa h;refine jb (bg rfl J) ?_;refine aq (nl ?_);exact jz ((),zz) h [0]
  .refine xa ?_;exact jz ((),()) h []
 .
  refine sr (cq ?_);refine cq (nt (aD ?_));refine ce (eI (t:=Tl) (x:=([]:(List Int))) 6 rfl .nil rfl rfl) ?_;cases h;exact rb
