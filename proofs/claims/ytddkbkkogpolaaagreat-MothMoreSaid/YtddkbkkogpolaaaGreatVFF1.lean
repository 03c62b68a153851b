import Derived.Test.YtddkbkkogpolaaaGreatVFFacts
import Derived.Test.YtddkbkkogpolaaaGreatVFB6
open Nat
open List hiding mem_of_getElem?
open Array hiding mem_of_getElem? mk
set_option linter.unusedSimpArgs false
set_option linter.unusedVariables false
set_option maxRecDepth 4000
set_option maxHeartbeats 1000000
namespace Go.Proofs.YtddkbkkogpolaaaGreat
open K Go Go.Proofs
def ik(k:Nat)(a0:bD):Option (Int×bD):=
 ((if a0.2.1 < (a0.1.length:Int) then((aV a0.1 a0.2.1).bind λx3=>
 some (IntKind.u64.wrap ((IntKind.u64.wrap ((IntKind.u64.wrap (a0.2.2 * 6364136223846793005))+1442695040888963407))+(IntKind.u64.wrap ((IntKind.u64.wrap x3) * 2862933555777941757))))) else(some (IntKind.u64.wrap ((IntKind.u64.wrap (a0.2.2 * 6364136223846793005))+1442695040888963407)))):Option (Int)).bind λx1=>
 (ck (a0.2.1+1)).bind λx4=>
 some (io .u64 (so .u64 (IntKind.u64.wrap ((so .u64 x1 (io .u64 x1 29)) * 2685821657736338717)) (io .u64 (IntKind.u64.wrap ((so .u64 x1 (io .u64 x1 29)) * 2685821657736338717)) 32)) 8,(a0.1,x4,x1))
theorem sd(k:Nat)(a0:bD)(c:Nat)(r:Int×bD)(h:ik k a0=some r):
 du Tryz.prog 60 [Pt c] [.obj c 71 (.agg (.pair (.rep Tl a0.1) (.pair (I a0.2.1) (.eq (.int .u64 a0.2.2)))))] (λ_:Unit=>(bJ [.eq (.int .u64 r.1)],[.obj c 71 (.agg (.pair (.rep Tl r.2.1) (.pair (I r.2.2.1) (.eq (.int .u64 r.2.2.2)))))])):=by
 unfold ik at h
 replace h:=bb h
 refine du.of 67 Tryz.func60 rfl Tryz.ntmps60 rfl λS w0=>?_
 refine sr ?_
 refine cq ?_
 refine nt ?_
 refine sr ?_
 iterate 2 refine mq ?_
 refine ja (cL rfl) ?_
 refine fl sB ?_
 refine lo Es ?_
 refine jb (Bl rfl) ?_
 refine jb (Hf rfl) ?_
 refine ja (cL rfl) ?_
 refine fl sB ?_
 refine aF rfl rfl (aC rfl Es rfl rfl rfl) ⟨rfl,rfl,trivial⟩ ?_
 refine nt ?_
 refine aN (Z:=Unit) (α:=Int) (λz2 x1=>[(0,Pt c)]) (λz2 x1=>[.obj c 71 (.agg (.pair (.rep Tl a0.1) (.pair (I a0.2.1) (.eq (.int .u64 x1)))))]) h (λK h=>?_) (λz2 x1 h=>?_)
 .
  refine aj (cG ?_);refine dm ?_;refine da (cL rfl) ?_;refine da (ap rfl yf) ?_;refine ea 0 (an rfl cJ jj rfl) ?_;refine dm ?_;refine da (cL rfl) ?_;refine da (ap rfl Ia) ?_;refine ea 0 (an rfl iN jj rfl) ?_;refine da (jg rfl rfl jr) ?_;refine df dZ ?_;refine jb (bO rfl) ?_;refine nt (ci h (λh=>?_) (λh=>?_))
  .refine cG ?_;refine dm ?_;refine dm ?_;refine da (cL rfl) ?_;refine da (ap rfl sB) ?_;refine ea 0 (an rfl Es jj rfl) ?_;refine dm ?_;refine da (cL rfl) ?_;refine da (ap rfl Ia) ?_;refine ea 0 (an rfl iN jj rfl) ?_;refine dm ?_;refine da (cL rfl) ?_;refine da (ap rfl yf) ?_;refine ea 0 (an rfl cJ jj rfl) ?_;obtain⟨x3,j,h⟩:=aa h;refine db (ba (t:=Ti) rfl jr cJ j) ?_;refine da (aA (t:=Ti) rfl cJ rfl) ?_;refine da (rP rfl U3 RJ) ?_;refine db (Bl rfl) ?_;refine db (Hf rfl) ?_;refine df dZ ?_;refine ja (cL rfl) ?_;refine fl sB ?_;refine aF rfl rfl (aC rfl Es rfl rfl rfl) ⟨rfl,rfl,trivial⟩ ?_;refine nl ?_;exact jz ((),IntKind.u64.wrap ((IntKind.u64.wrap ((IntKind.u64.wrap (a0.2.2 * 6364136223846793005))+1442695040888963407))+(IntKind.u64.wrap ((IntKind.u64.wrap x3) * 2862933555777941757)))) h [0]
  .refine bi (au ?_);exact jz ((),IntKind.u64.wrap ((IntKind.u64.wrap (a0.2.2 * 6364136223846793005))+1442695040888963407)) h [0]
 .
  refine sr (mq ?_);refine ja (cL rfl) ?_;refine fl yf ?_;refine lo cJ ?_;obtain⟨x4,e,h⟩:=aa h;refine jb (bH rfl e) ?_;refine ja (cL rfl) ?_;refine fl yf ?_;refine aF rfl rfl (aC rfl cJ rfl rfl rfl) ⟨rfl,rfl,trivial⟩ ?_;refine nt (aj (cG ?_));refine dm ?_;refine da (cL rfl) ?_;refine da (ap rfl sB) ?_;refine ea 0 (an rfl Es jj rfl) ?_;refine dm ?_;refine da (cL rfl) ?_;refine da (ap rfl sB) ?_;refine ea 0 (an rfl Es jj rfl) ?_;refine fL rfl rfl rfl (uw rfl (by decide)) ⟨rfl,rfl,trivial⟩ ?_;refine df dZ ?_;refine jb (M5 rfl) ?_;refine aq (nt (sr ?_));refine mq ?_;refine jb (Bl rfl) ?_;refine aq (nt (sr ?_));iterate 2 refine mq ?_
  refine bZ rfl (uw rfl (by decide)) ⟨rfl,rfl,trivial⟩ ?_;refine jb (M5 rfl) ?_;refine bZ rfl (uw rfl (by decide)) ⟨rfl,rfl,trivial⟩ ?_;refine aq (nt (aE ?_));cases h;exact aL () [_] 1 ⟨rfl,trivial⟩ rfl
def bR(k:Nat)(a0:bD)(a1:Int):Option (Int×bD):=
 if a1 < 1 then(some (0,(a0.1,a0.2.1,a0.2.2))) else((ik k (a0.1,a0.2.1,a0.2.2)).bind λr1=>
 (ck (a1+1)).bind λx2=>
 (cH ((IntKind.u64.wrap x2)≠0)).bind λ_=>
 (ck (Int.tmod r1.1 (IntKind.u64.wrap x2))).bind λx4=>
 some (x4,(r1.2.1,r1.2.2.1,r1.2.2.2)))
theorem bW(k:Nat)(a0:bD)(c:Nat)(a1:Int)(r:Int×bD)(h:bR k a0 a1=some r):
 du Tryz.prog 26 [Pt c,I a1] [.obj c 71 (.agg (.pair (.rep Tl a0.1) (.pair (I a0.2.1) (.eq (.int .u64 a0.2.2)))))] (λ_:Unit=>(bJ [I r.1],[.obj c 71 (.agg (.pair (.rep Tl r.2.1) (.pair (I r.2.2.1) (.eq (.int .u64 r.2.2.2)))))])):=by
 unfold bR at h
 replace h:=bb h
 refine du.of 14 Tryz.func26 rfl Tryz.ntmps26 rfl λS w0=>?_
 refine sr ?_
 refine cq ?_
 refine nt ?_
 refine aj ?_
 refine sr ?_
 refine mq ?_
 refine jb (bO rfl) ?_
 refine nt ?_
 refine ci h (λh=>?_) (λh=>?_)
 .
  refine sr (cq (nt (rx ?_)));cases h;exact aL () [_] 1 ⟨rfl,trivial⟩ rfl
 .
  refine sk (sr (mq ?_));obtain⟨r1,n,h⟩:=aa h;refine ka (ay [.tmp 7] rfl rfl Tn rfl (sd k (a0.1,a0.2.1,a0.2.2) c r1 n)) ?_;refine mq ?_;obtain⟨x2,j,h⟩:=aa h;refine jb (bH rfl j) ?_;refine ja (rP rfl U3 RJ) ?_;obtain⟨u3,l,h⟩:=aa h;refine jb (Qa rfl (ao l)) ?_;obtain⟨x4,e,h⟩:=aa h;refine ja (zo rfl RJ U3 e) ?_;refine aq (nt (aE ?_));cases h;exact aL () [_] 1 ⟨rfl,trivial⟩ rfl
def dS(k:Nat)(a0:bD)(a1:Int):Option (Bool×bD):=
 (ck (a1 - 1)).bind λx1=>
 (bR k (a0.1,a0.2.1,a0.2.2) x1).bind λr2=>
 some (decide (r2.1=0),(r2.2.1,r2.2.2.1,r2.2.2.2))
theorem fD(k:Nat)(a0:bD)(c:Nat)(a1:Int)(r:Bool×bD)(h:dS k a0 a1=some r):
 du Tryz.prog 52 [Pt c,I a1] [.obj c 71 (.agg (.pair (.rep Tl a0.1) (.pair (I a0.2.1) (.eq (.int .u64 a0.2.2)))))] (λ_:Unit=>(bJ [.eq (.bool r.1)],[.obj c 71 (.agg (.pair (.rep Tl r.2.1) (.pair (I r.2.2.1) (.eq (.int .u64 r.2.2.2)))))])):=by
 unfold dS at h
 replace h:=bb h
 refine du.of 10 Tryz.func52 rfl Tryz.ntmps52 rfl λS w0=>?_
 refine sr ?_
 refine cq ?_
 refine nt ?_
 refine sr ?_
 iterate 2 refine mq ?_
 obtain⟨x1,e,h⟩:=aa h
 refine jb (eE rfl e) ?_
 obtain⟨r2,j,h⟩:=aa h
 have l:=bW k (a0.1,a0.2.1,a0.2.2) c x1 r2 j
 refine kb (ay [.tmp 5,.tmp 7] rfl rfl tu rfl l) ?_
 refine jb (hJ rfl) ?_
 refine aq ?_
 refine nt ?_
 refine aE ?_
 cases h
 exact aL () [_] 1 ⟨rfl,trivial⟩ rfl
def kE(k:Nat)(a0:bD)(a1:ab):Option (aG×bD):=
 (ck (a1.1 - 1)).bind λx3=>
 (bR k (a0.1,a0.2.1,a0.2.2) x3).bind λr4=>
 (bR k (r4.2.1,r4.2.2.1,r4.2.2.2) (a1.2.2.2.2.1.length:Int)).bind λr5=>
 (dS k (r5.2.1,r5.2.2.1,r5.2.2.2) 2).bind λr6=>
 some ((r4.1,r5.1,r6.1),(r6.2.1,r6.2.2.1,r6.2.2.2))
theorem tp(k:Nat)(a0:bD)(c:Nat)(a1:ab)(r:aG×bD)(h:kE k a0 a1=some r):
 du Tryz.prog 18 [Pt c,.rep am a1] [.obj c 71 (.agg (.pair (.rep Tl a0.1) (.pair (I a0.2.1) (.eq (.int .u64 a0.2.2)))))] (λ_:Unit=>(bJ [.rep aH r.1],[.obj c 71 (.agg (.pair (.rep Tl r.2.1) (.pair (I r.2.2.1) (.eq (.int .u64 r.2.2.2)))))])):=by
 unfold kE at h
 replace h:=bb h
 refine du.of 18 Tryz.func18 rfl Tryz.ntmps18 rfl λS w0=>?_
 refine sr ?_
 refine bx λb1=>?_
 refine aQ rfl rfl rfl (aX rfl vB Ce) trivial λb2=>?_
 refine nt ?_
 refine aj ?_
 refine xj [1,2,3,5,6,7,8,10,0,4,9,11,12,13] (by kernel_rfl) ?_
 refine bv rfl rfl rfl (ap rfl fG) ⟨rfl,trivial⟩ ?_
 refine gp 1 rfl rfl rfl rfl (an rfl cJ jj rfl) ⟨rfl,trivial⟩ ?_
 obtain⟨x3,E,h⟩:=aa h
 refine bv rfl rfl rfl (eE rfl E) ⟨rfl,rfl,trivial⟩ ?_
 refine bv rfl rfl rfl (bA rfl) ⟨rfl,trivial⟩ ?_
 refine bv rfl rfl rfl (ap rfl cU) ⟨rfl,trivial⟩ ?_
 refine gp 1 rfl rfl rfl rfl (an rfl ic jj rfl) ⟨rfl,trivial⟩ ?_
 refine bv rfl rfl rfl (jg rfl rfl tX) ⟨rfl,trivial⟩ ?_
 refine bv rfl rfl rfl (bA rfl) ⟨rfl,trivial⟩ ?_
 refine bv rfl rfl rfl (bA rfl) ⟨rfl,trivial⟩ ?_
 refine sT 9 [true,true,true,false,false,false,false,false,true] [9,14] [1] [.obj b1 26 (.rep am a1)] rfl (by kernel_rfl) (by kernel_rfl) (by kernel_rfl) dZ (λvs hv hB=>?_)
 obtain⟨w0,UE,rfl,D⟩:=ax hv
 obtain⟨w1,zz,rfl,y⟩:=ax D
 obtain⟨w2,qt,rfl,x⟩:=ax y
 obtain⟨w3,mw,rfl,u⟩:=ax x
 obtain⟨w4,mc,rfl,s⟩:=ax u
 obtain⟨w5,gw,rfl,n⟩:=ax s
 obtain⟨w6,Z,rfl,l⟩:=ax n
 obtain⟨w7,Y,rfl,j⟩:=ax l
 obtain⟨w8,X,rfl,e⟩:=ax j
 obtain rfl:=oY e
 refine⟨[1,0,2],[.obj b2 47 (.agg (.pair (I 0) (.pair (I 0) (.eq (.bool false))))),.obj c 71 (.agg (.pair (.rep Tl a0.1) (.pair (I a0.2.1) (.eq (.int .u64 a0.2.2)))))],by kernel_rfl,by decide,?_⟩
 obtain⟨r4,M,h⟩:=aa h
 have U:=bW k (a0.1,a0.2.1,a0.2.2) c x3 r4 M
 refine oJ 1 rfl ?_
 refine qw rfl rfl rfl rfl (ay [.tmp 5,.tmp 8] rfl rfl tu rfl U) ⟨rfl,rfl,trivial⟩ (by kernel_rfl) ?_
 obtain⟨r5,J,h⟩:=aa h
 have Q:=bW k (r4.2.1,r4.2.2.1,r4.2.2.2) c (a1.2.2.2.2.1.length:Int) r5 J
 refine qw rfl rfl rfl rfl (ay [.tmp 10,.tmp 13] rfl rfl tu rfl Q) ⟨rfl,rfl,trivial⟩ (by kernel_rfl) ?_
 refine IZ (by kernel_rfl) ?_
 obtain⟨r6,F,h⟩:=aa h
 have O:=fD k (r5.2.1,r5.2.2.1,r5.2.2.2) c 2 r6 F
 refine fr 1 ?_
 refine kb (ay [.tmp 15,.const (.int .i64 (2))] rfl rfl Ii rfl O) ?_
 refine jc (cR [(0,.tmp 9,_),(1,.tmp 14,_),(2,.tmp 16,_)] rfl Oe vB IB (gA ⟨rfl,rfl,rfl,trivial⟩) rfl) ?_
 refine fr 2 ?_
 refine aF rfl rfl (aC rfl jE trivial rfl rfl) ⟨rfl,rfl,trivial⟩ ?_
 refine nt ?_
 refine aE ?_
 refine bo (dT (a:=.agg (.pair (I r4.1) (.pair (I r5.1) (.eq (.bool r6.1))))) (a':=.rep aH (r4.1,r5.1,r6.1)) (fp (.agg (.pair .int (.pair .int .bool))))) ?_
 refine bo (SE.fin (Γ':=[(4,_)]) [1,0,2] ⟨rfl,trivial⟩ rfl) ?_
 cases h
 exact aL () [.rep aH (r4.1,r5.1,r6.1)] 1 ⟨⟨_,_,_,_,_,rfl,(.tail _ (.head _)),jE,(nK),rfl⟩,trivial⟩ rfl
def il(k:Nat)(a0:bD)(a1:yl):Option (aG×bD):=
 (ck (a1.1 - 1)).bind λx3=>
 (bR k (a0.1,a0.2.1,a0.2.2) x3).bind λr4=>
 (bR k (r4.2.1,r4.2.2.1,r4.2.2.2) (a1.2.2.2.2.1.length:Int)).bind λr5=>
 (dS k (r5.2.1,r5.2.2.1,r5.2.2.2) 2).bind λr6=>
 some ((r4.1,r5.1,r6.1),(r6.2.1,r6.2.2.1,r6.2.2.2))
theorem sf(k:Nat)(a0:bD)(c:Nat)(a1:yl)(r:aG×bD)(h:il k a0 a1=some r):
 du Tryz.prog 18 [Pt c,.rep CU a1] [.obj c 71 (.agg (.pair (.rep Tl a0.1) (.pair (I a0.2.1) (.eq (.int .u64 a0.2.2)))))] (λ_:Unit=>(bJ [.rep aH r.1],[.obj c 71 (.agg (.pair (.rep Tl r.2.1) (.pair (I r.2.2.1) (.eq (.int .u64 r.2.2.2)))))])):=by
 unfold il at h
 replace h:=bb h
 refine du.of 18 Tryz.func18 rfl Tryz.ntmps18 rfl λS w0=>?_
 refine sr ?_
 refine bx λb1=>?_
 refine aQ rfl rfl rfl (aX rfl vB Ce) trivial λb2=>?_
 refine nt ?_
 refine aj ?_
 refine xj [1,2,3,5,6,7,8,10,0,4,9,11,12,13] (by kernel_rfl) ?_
 refine bv rfl rfl rfl (ap rfl fG) ⟨rfl,trivial⟩ ?_
 refine gp 1 rfl rfl rfl rfl (an rfl cJ jj rfl) ⟨rfl,trivial⟩ ?_
 obtain⟨x3,E,h⟩:=aa h
 refine bv rfl rfl rfl (eE rfl E) ⟨rfl,rfl,trivial⟩ ?_
 refine bv rfl rfl rfl (bA rfl) ⟨rfl,trivial⟩ ?_
 refine bv rfl rfl rfl (ap rfl cU) ⟨rfl,trivial⟩ ?_
 refine gp 1 rfl rfl rfl rfl (an rfl ic jj rfl) ⟨rfl,trivial⟩ ?_
 refine bv rfl rfl rfl (jg rfl rfl tX) ⟨rfl,trivial⟩ ?_
 refine bv rfl rfl rfl (bA rfl) ⟨rfl,trivial⟩ ?_
 refine bv rfl rfl rfl (bA rfl) ⟨rfl,trivial⟩ ?_
 refine sT 9 [true,true,true,false,false,false,false,false,true] [9,14] [1] [.obj b1 26 (.rep CU a1)] rfl (by kernel_rfl) (by kernel_rfl) (by kernel_rfl) dZ (λvs hv hB=>?_)
 obtain⟨w0,UE,rfl,D⟩:=ax hv
 obtain⟨w1,zz,rfl,y⟩:=ax D
 obtain⟨w2,qt,rfl,x⟩:=ax y
 obtain⟨w3,mw,rfl,u⟩:=ax x
 obtain⟨w4,mc,rfl,s⟩:=ax u
 obtain⟨w5,gw,rfl,n⟩:=ax s
 obtain⟨w6,Z,rfl,l⟩:=ax n
 obtain⟨w7,Y,rfl,j⟩:=ax l
 obtain⟨w8,X,rfl,e⟩:=ax j
 obtain rfl:=oY e
 refine⟨[1,0,2],[.obj b2 47 (.agg (.pair (I 0) (.pair (I 0) (.eq (.bool false))))),.obj c 71 (.agg (.pair (.rep Tl a0.1) (.pair (I a0.2.1) (.eq (.int .u64 a0.2.2)))))],by kernel_rfl,by decide,?_⟩
 obtain⟨r4,M,h⟩:=aa h
 have U:=bW k (a0.1,a0.2.1,a0.2.2) c x3 r4 M
 refine oJ 1 rfl ?_
 refine qw rfl rfl rfl rfl (ay [.tmp 5,.tmp 8] rfl rfl tu rfl U) ⟨rfl,rfl,trivial⟩ (by kernel_rfl) ?_
 obtain⟨r5,J,h⟩:=aa h
 have Q:=bW k (r4.2.1,r4.2.2.1,r4.2.2.2) c (a1.2.2.2.2.1.length:Int) r5 J
 refine qw rfl rfl rfl rfl (ay [.tmp 10,.tmp 13] rfl rfl tu rfl Q) ⟨rfl,rfl,trivial⟩ (by kernel_rfl) ?_
 refine IZ (by kernel_rfl) ?_
 obtain⟨r6,F,h⟩:=aa h
 have O:=fD k (r5.2.1,r5.2.2.1,r5.2.2.2) c 2 r6 F
 refine fr 1 ?_
 refine kb (ay [.tmp 15,.const (.int .i64 (2))] rfl rfl Ii rfl O) ?_
 refine jc (cR [(0,.tmp 9,_),(1,.tmp 14,_),(2,.tmp 16,_)] rfl Oe vB IB (gA ⟨rfl,rfl,rfl,trivial⟩) rfl) ?_
 refine fr 2 ?_
 refine aF rfl rfl (aC rfl jE trivial rfl rfl) ⟨rfl,rfl,trivial⟩ ?_
 refine nt ?_
 refine aE ?_
 refine bo (dT (a:=.agg (.pair (I r4.1) (.pair (I r5.1) (.eq (.bool r6.1))))) (a':=.rep aH (r4.1,r5.1,r6.1)) (fp (.agg (.pair .int (.pair .int .bool))))) ?_
 refine bo (SE.fin (Γ':=[(4,_)]) [1,0,2] ⟨rfl,trivial⟩ rfl) ?_
 cases h
 exact aL () [.rep aH (r4.1,r5.1,r6.1)] 1 ⟨⟨_,_,_,_,_,rfl,(.tail _ (.head _)),jE,(nK),rfl⟩,trivial⟩ rfl
def iZ(k:Nat)(a0:(List Int)):Option (List Int):=
 (cH (bM (length ([]:(List Int))+length a0))).bind λ_=>
 some (([]:(List Int))++a0)
theorem tq(k:Nat)(a0:(List Int))(r:(List Int))(h:iZ k a0=some r):
 du Tryz.prog 89 [.rep Tl a0] [] (λz:Value=>(bJ [.eq z],[.sl z 3 Ti r])):=by
 unfold iZ at h
 replace h:=bb h
 refine du.of 6 Tryz.func89 rfl Tryz.ntmps89 rfl λS w0=>?_
 refine sr ?_
 refine cq ?_
 refine nt ?_
 refine sr ?_
 refine aQ rfl rfl rfl (lg (t:=Ti) [] ([]:(List Int)) rfl rfl ec .nil rfl rfl) trivial λv1=>?_
 refine mq ?_
 obtain⟨u2,c,h⟩:=aa h
 refine eh rfl rfl rfl (cx rfl rfl ec (ao c)) ⟨rfl,rfl,trivial⟩ λv3=>?_
 refine aq ?_
 refine nt ?_
 refine aE ?_
 cases h
 exact aL v3 [.eq v3] 1 ⟨rfl,trivial⟩ rfl
def dM(k:Nat)(a0:(List (List Int))):Nat->((List (List Int))×Int)->Option (List (List Int))
 |0,_=>none
 |n+1,y3=>
  if y3.2 < (a0.length:Int) then((aV a0 y3.2).bind λx5=>
  (iZ k x5).bind λr6=>
  (cH (bM (length y3.1+length [r6]))).bind λ_=>
  (ck (y3.2+1)).bind λc=>
  dM k a0 n (y3.1++[r6],c)) else(some y3.1)
def gi(k:Nat)(a0:(List (List Int))):Option (List (List Int)):=
 ((dM k a0 k (([]:(List (List Int))),0)):Option ((List (List Int)))).bind λx1=>
 some x1
theorem mM(k:Nat)(a0:(List (List Int)))(r:(List (List Int)))(h:gi k a0=some r):
 du Tryz.prog 53 [.rep (.slice Tl) a0] [] (λz:Value=>(bJ [.eq z],[.sl z 22 Tl r])):=by
 unfold gi at h
 replace h:=bb h
 refine du.of 20 Tryz.func53 rfl Tryz.ntmps53 rfl λS w0=>?_
 refine sr ?_
 refine cq ?_
 refine nt ?_
 refine sr ?_
 refine cq ?_
 refine nt ?_
 refine aN (Z:=Value) (α:=(List (List Int))) (λz2 x1=>[(3,.eq z2)]) (λz2 x1=>[.sl z2 22 Tl x1]) h (λK h=>?_) (λz2 x1 h=>?_)
 .
  refine sr (cq (nt (ak ?_)));refine iJ (SE.nil 22 Tl) ?_;refine aM (λz4 y3=>[(0,.rep (.slice Tl) a0),(3,.eq z4),(4,I y3.2)]) (λz4 y3=>[.sl z4 22 Tl y3.1]) (dM k a0) k (.slice none 0 0) (([]:(List (List Int))),0) (λ_=>rfl) h (SE.fin [0] ⟨rfl,rfl,rfl,trivial⟩ rfl) (λn z4 y3 h=>?_);unfold dM at h;refine aj (sr ?_);iterate 2 refine mq ?_
  refine ol qs ?_;refine jb (bO rfl) ?_;refine nt (ci h (λh=>?_) (λh=>?_))
  .refine sk (aj (ak (ae ?_)));iterate 3 refine mq ?_
   obtain⟨x5,j,h⟩:=aa h;refine jb (ba (t:=Tl) rfl qs iN j) ?_;refine ja (aA (t:=Tl) rfl iN rfl) ?_;obtain⟨r6,s,h⟩:=aa h;refine aQ rfl rfl rfl (ay [.tmp 15] rfl rfl SY rfl (tq k x5 r6 s)) ⟨rfl,trivial⟩ λv7=>?_;refine eJ (ju [16] ⟨rfl,trivial⟩) ?_;refine ja (bf (t:=Tl) [(.tmp 16,_)] [r6] rfl rfl pw (.cons rfl .rep .nil) rfl rfl) ?_;obtain⟨u8,l,h⟩:=aa h;refine eh rfl rfl rfl (cx rfl rfl pw (ao l)) ⟨rfl,rfl,trivial⟩ λv9=>?_;refine aq (aI (aS (tn (ae ?_))));refine mq ?_;obtain⟨e,c,h⟩:=aa h;refine jb (bH rfl c) ?_;refine aq (nl ?_);exact jz (v9,(y3.1++[r6],e)) h [0]
  .refine xa ?_;exact jz (z4,y3.1) h [0]
 .
  refine sr (mq ?_);refine aq (nt (aE ?_));cases h;exact aL z2 [.eq z2] 1 ⟨rfl,trivial⟩ rfl
def fP(k:Nat)(a0:bD)(a1:Int)(a2:Int):Option (Int×bD):=
 (ck (a2 - a1)).bind λx1=>
 (bR k (a0.1,a0.2.1,a0.2.2) x1).bind λr2=>
 (ck (a1+r2.1)).bind λx3=>
 some (x3,(r2.2.1,r2.2.2.1,r2.2.2.2))
theorem iY(k:Nat)(a0:bD)(c:Nat)(a1:Int)(a2:Int)(r:Int×bD)(h:fP k a0 a1 a2=some r):
 du Tryz.prog 57 [Pt c,I a1,I a2] [.obj c 71 (.agg (.pair (.rep Tl a0.1) (.pair (I a0.2.1) (.eq (.int .u64 a0.2.2)))))] (λ_:Unit=>(bJ [I r.1],[.obj c 71 (.agg (.pair (.rep Tl r.2.1) (.pair (I r.2.2.1) (.eq (.int .u64 r.2.2.2)))))])):=by
 unfold fP at h
 replace h:=bb h
 refine du.of 14 Tryz.func57 rfl Tryz.ntmps57 rfl λS w0=>?_
 refine sr ?_
 refine cq ?_
 refine nt ?_
 refine sr ?_
 iterate 4 refine mq ?_
 obtain⟨x1,j,h⟩:=aa h
 refine jb (eE rfl j) ?_
 obtain⟨r2,l,h⟩:=aa h
 have n:=bW k (a0.1,a0.2.1,a0.2.2) c x1 r2 l
 refine kb (ay [.tmp 8,.tmp 11] rfl rfl tu rfl n) ?_
 obtain⟨x3,e,h⟩:=aa h
 refine jb (bH rfl e) ?_
 refine aq ?_
 refine nt ?_
 refine aE ?_
 cases h
 exact aL () [_] 1 ⟨rfl,trivial⟩ rfl
def gR(k:Nat)(a0:bD)(a1:(List Int)):Option (Int×bD):=
 (ck ((a1.length:Int) - 1)).bind λx1=>
 (bR k (a0.1,a0.2.1,a0.2.2) x1).bind λr2=>
 (aV a1 r2.1).bind λx3=>
 some (x3,(r2.2.1,r2.2.2.1,r2.2.2.2))
theorem lx(k:Nat)(a0:bD)(c:Nat)(a1:(List Int))(r:Int×bD)(h:gR k a0 a1=some r):
 du Tryz.prog 58 [Pt c,.rep Tl a1] [.obj c 71 (.agg (.pair (.rep Tl a0.1) (.pair (I a0.2.1) (.eq (.int .u64 a0.2.2)))))] (λ_:Unit=>(bJ [I r.1],[.obj c 71 (.agg (.pair (.rep Tl r.2.1) (.pair (I r.2.2.1) (.eq (.int .u64 r.2.2.2)))))])):=by
 unfold gR at h
 replace h:=bb h
 refine du.of 13 Tryz.func58 rfl Tryz.ntmps58 rfl λS w0=>?_
 refine sr ?_
 refine cq ?_
 refine nt ?_
 refine sr ?_
 iterate 3 refine mq ?_
 refine ol jr ?_
 obtain⟨x1,j,h⟩:=aa h
 refine jb (eE rfl j) ?_
 obtain⟨r2,l,h⟩:=aa h
 have n:=bW k (a0.1,a0.2.1,a0.2.2) c x1 r2 l
 refine kb (ay [.tmp 6,.tmp 9] rfl rfl tu rfl n) ?_
 obtain⟨x3,e,h⟩:=aa h
 refine jb (ba (t:=Ti) rfl jr cJ e) ?_
 refine ja (aA (t:=Ti) rfl cJ rfl) ?_
 refine aq ?_
 refine nt ?_
 refine aE ?_
 cases h
 exact aL () [_] 1 ⟨rfl,trivial⟩ rfl
def d4(k:Nat)(a1:Int):Nat->((List Int)×Int×Int×(List Int)×Int)->Option ((List Int)×(List Int)×Int×Int)
 |0,_=>none
 |n+1,y3=>
  if y3.2.2.2.2 < a1 then((bR k (y3.1,y3.2.1,y3.2.2.1) y3.2.2.2.2).bind λr5=>
  (cH (bM (length y3.2.2.2.1+length [y3.2.2.2.2]))).bind λ_=>
  (aV (y3.2.2.2.1++[y3.2.2.2.2]) r5.1).bind λx8=>
  (aV (y3.2.2.2.1++[y3.2.2.2.2]) y3.2.2.2.2).bind λx9=>
  (aV (List.set (y3.2.2.2.1++[y3.2.2.2.2]) (Int.toNat y3.2.2.2.2) x8) r5.1).bind λe=>
  (ck (y3.2.2.2.2+1)).bind λc=>
  d4 k a1 n (r5.2.1,r5.2.2.1,r5.2.2.2,List.set (List.set (y3.2.2.2.1++[y3.2.2.2.2]) (Int.toNat y3.2.2.2.2) x8) (Int.toNat r5.1) y3.2.2.2.2,c)) else(some (y3.2.2.2.1,y3.1,y3.2.1,y3.2.2.1))
def gU(k:Nat)(a0:bD)(a1:Int):Option ((List Int)×bD):=
 ((d4 k a1 k (a0.1,a0.2.1,a0.2.2,([]:(List Int)),0)):Option ((List Int)×(List Int)×Int×Int)).bind λx1=>
 some (x1.1,(x1.2.1,x1.2.2.1,x1.2.2.2))
theorem qW(k:Nat)(a0:bD)(c:Nat)(a1:Int)(r:(List Int)×bD)(h:gU k a0 a1=some r):
 du Tryz.prog 90 [Pt c,I a1] [.obj c 71 (.agg (.pair (.rep Tl a0.1) (.pair (I a0.2.1) (.eq (.int .u64 a0.2.2)))))] (λ_:Unit=>(bJ [.rep Tl r.1],[.obj c 71 (.agg (.pair (.rep Tl r.2.1) (.pair (I r.2.2.1) (.eq (.int .u64 r.2.2.2)))))])):=by
 unfold gU at h
 replace h:=bb h
 refine du.of 32 Tryz.func90 rfl Tryz.ntmps90 rfl λS w0=>?_
 refine sr ?_
 refine cq ?_
 refine nt ?_
 refine sr ?_
 refine cq ?_
 refine nt ?_
 refine aN (Z:=Value) (α:=(List Int)×(List Int)×Int×Int) (λz2 x1=>[(5,.eq z2)]) (λz2 x1=>[.sl z2 3 Ti x1.1,.obj c 71 (.agg (.pair (.rep Tl x1.2.1) (.pair (I x1.2.2.1) (.eq (.int .u64 x1.2.2.2)))))]) h (λK h=>?_) (λz2 x1 h=>?_)
 .
  refine sr (cq (nt (ak ?_)));refine iJ (SE.nil 3 Ti) ?_;refine aM (λz4 y3=>[(0,Pt c),(1,I a1),(5,.eq z4),(6,I y3.2.2.2.2)]) (λz4 y3=>[.obj c 71 (.agg (.pair (.rep Tl y3.1) (.pair (I y3.2.1) (.eq (.int .u64 y3.2.2.1))))),.sl z4 3 Ti y3.2.2.2.1]) (d4 k a1) k (.slice none 0 0) (a0.1,a0.2.1,a0.2.2,([]:(List Int)),0) (λ_=>rfl) h (SE.fin [1,0] ⟨rfl,rfl,rfl,rfl,trivial⟩ rfl) (λn z4 y3 h=>?_);unfold d4 at h;refine aj (sr ?_);iterate 2 refine mq ?_
  refine jb (bO rfl) ?_;refine nt (ci h (λh=>?_) (λh=>?_))
  .refine sk (aj (ak (sr ?_)));iterate 2 refine mq ?_
   obtain⟨r5,y,h⟩:=aa h;refine kb (ay [.tmp 13,.tmp 14] rfl rfl tu rfl (bW k (y3.1,y3.2.1,y3.2.2.1) c y3.2.2.2.2 r5 y)) ?_;refine aq (nt (sr ?_));iterate 2 refine mq ?_
   refine ja (bf (t:=Ti) [(.tmp 17,_)] [y3.2.2.2.2] rfl rfl ec (.cons rfl .int .nil) rfl rfl) ?_;obtain⟨u6,x,h⟩:=aa h;refine fr 1 ?_;refine eh rfl rfl rfl (cx rfl rfl ec (ao x)) ⟨rfl,rfl,trivial⟩ λv7=>?_;refine aq (nt (ae ?_));iterate 6 refine mq ?_
   obtain⟨x8,l,h⟩:=aa h;refine kb (cI (t:=Ti) rfl jr cJ l) ?_;refine ka (gY (i:=Int.toNat r5.1) (off:=0) rfl cJ (λ_=>rfl) rfl (dN l).2.2 rfl) ?_;refine mq ?_;obtain⟨x9,j,h⟩:=aa h;refine kb (cI (t:=Ti) rfl jr cJ j) ?_;refine aF rfl rfl (gC (i:=Int.toNat y3.2.2.2.2) rfl cJ rfl (np j) rfl .int rfl) ⟨rfl,rfl,trivial⟩ ?_;obtain⟨D,e,h⟩:=aa h;refine kb (cI (t:=Ti) rfl jr cJ e) ?_;refine aF rfl rfl (gC (i:=Int.toNat r5.1) rfl cJ rfl (np e) rfl .int rfl) ⟨rfl,rfl,trivial⟩ ?_;refine aI (aS (tn (ae (mq ?_))));obtain⟨u,s,h⟩:=aa h;refine jb (bH rfl s) ?_;refine aq (nl ?_);exact jz (v7,(r5.2.1,r5.2.2.1,r5.2.2.2,List.set (List.set (y3.2.2.2.1++[y3.2.2.2.2]) (Int.toNat y3.2.2.2.2) x8) (Int.toNat r5.1) y3.2.2.2.2,u)) h [1,0]
  .refine xa ?_;exact jz (z4,(y3.2.2.2.1,y3.1,y3.2.1,y3.2.2.1)) h [1,0]
 .
  refine sr (mq ?_);refine aq (nt (aE ?_));refine bo (ju [4,5,31] ⟨rfl,rfl,rfl,trivial⟩) ?_;cases h;exact aL () [_] 1 ⟨rfl,trivial⟩ rfl
def lW(k:Nat)(a0:(List Int)):Option bD:=
 some (a0,0,1)
theorem uK(k:Nat)(a0:(List Int))(r:bD)(h:lW k a0=some r):
 du Tryz.prog 10 [.rep Tl a0] [] (λz:Nat=>(bJ [Pt z],[.obj z 71 (.agg (.pair (.rep Tl r.1) (.pair (I r.2.1) (.eq (.int .u64 r.2.2)))))])):=by
 unfold lW at h
 replace h:=bb h
 refine du.of 6 Tryz.func10 rfl Tryz.ntmps10 rfl λS w0=>?_
 refine sr ?_
 refine cq ?_
 refine nt ?_
 refine sr ?_
 refine mq ?_
 refine jb (cR [(0,.tmp 3,_),(2,.const (.int .u64 (1)),_)] rfl R7 RV Q7 (gA ⟨rfl,rfl,trivial⟩) rfl) ?_
 refine aQ rfl rfl rfl (wC rfl trivial) ⟨rfl,trivial⟩ λb1=>?_
 refine aq ?_
 refine nt ?_
 refine aE ?_
 cases h
 exact aL b1 [Pt b1] 1 ⟨rfl,trivial⟩ rfl
def fZ(k:Nat)(a0:Int)(a1:Int):Option Int:=
 (cH (0≤a1)).bind λ_=>
 some (Dj .u8 a0 (ou .u8 1 a1))
theorem j9(k:Nat)(a0:Int)(a1:Int)(r:Int)(h:fZ k a0 a1=some r):
 du Tryz.prog 62 [.eq (.int .u8 a0),I a1] [] (λ_:Unit=>(bJ [.eq (.int .u8 r)],[])):=by
 unfold fZ at h
 replace h:=bb h
 refine du.of 9 Tryz.func62 rfl Tryz.ntmps62 rfl λS w0=>?_
 refine sr ?_
 refine cq ?_
 refine nt ?_
 refine sr ?_
 iterate 2 refine mq ?_
 obtain⟨u1,c,h⟩:=aa h
 refine jb (M6 rfl (ao c)) ?_
 refine jb (Si rfl) ?_
 refine aq ?_
 refine nt ?_
 refine aE ?_
 cases h
 exact ra
def dK(k:Nat)(a0:Int)(a1:Int)(a2:Int):Option Bool:=
 ((if a1≤a0 then(some (decide (a0≤a2))) else(some false)):Option (Bool)).bind λx1=>
 some x1
theorem dR(k:Nat)(a0:Int)(a1:Int)(a2:Int)(r:Bool)(h:dK k a0 a1 a2=some r):
 du Tryz.prog 71 [I a0,I a1,I a2] [] (λ_:Unit=>(bJ [.eq (.bool r)],[])):=by
 unfold dK at h
 replace h:=bb h
 refine du.of 15 Tryz.func71 rfl Tryz.ntmps71 rfl λS w0=>?_
 refine sr ?_
 refine cq ?_
 refine nt ?_
 refine aN (Z:=Unit) (α:=Bool) (λz2 x1=>[(6,.eq (.bool x1))]) (λz2 x1=>[]) h (λK h=>?_) (λz2 x1 h=>?_)
 .
  refine ae ?_;iterate 2 refine mq ?_
  refine jb (C0 rfl) ?_;refine mq ?_;refine bN (s:=10) rfl (λhb=>?_) (λhb=>?_)
  .replace h:=eu (tw hb) h;refine gm ?_;refine gm ?_;refine gb (C0 rfl) ?_;refine pt ?_;refine aq (nl ?_);exact jz ((),decide (a0≤a2)) h []
  .replace h:=cK (tz hb) h;iterate 3 refine gn ?_
   refine pf ?_;refine aq (nl ?_);exact jz ((),false) h []
 .
  refine aE ?_;cases h;exact ra
def eR(k:Nat)(a0:ab)(a1:aG):Option Int:=
 (((ck (a0.1 - 1)).bind λx5=>
 (dK k a1.1 0 x5).bind λr6=>
 if¬(r6=true) then(some true) else((dK k a1.2.1 0 (a0.2.2.2.2.1.length:Int)).bind λr7=>
 some (!r7))):Option (Bool)).bind λx3=>
 if x3=true then(some 3) else(some 0)
theorem lu(k:Nat)(a0:ab)(a1:aG)(r:Int)(h:eR k a0 a1=some r):
 du Tryz.prog 54 [.rep am a0,.rep aH a1] [] (λ_:Unit=>(bJ [I r],[])):=by
 unfold eR at h
 replace h:=bb h
 refine du.of 21 Tryz.func54 rfl Tryz.ntmps54 rfl λS w0=>?_
 refine sr ?_
 refine bx λb1=>?_
 refine bx λb2=>?_
 refine cq ?_
 refine nt ?_
 refine aj ?_
 refine aN (Z:=Unit) (α:=Bool) (λz4 x3=>[(20,.eq (.bool x3))]) (λz4 x3=>[]) h (λK h=>?_) (λz4 x3 h=>?_)
 .
  refine ae (fl BP ?_);refine lo cJ ?_;refine fl fG ?_;refine fr 1 ?_;refine lo cJ ?_;obtain⟨x5,c,h⟩:=aa h;refine jb (eE rfl c) ?_;obtain⟨r6,j,h⟩:=aa h;refine jc (ay [.tmp 6,.const (.int .i64 (0)),.tmp 9] rfl rfl yk rfl (dR k a1.1 0 x5 r6 j)) ?_;refine ja (ig rfl) ?_;refine mq ?_;refine bN (s:=12) rfl (λhb=>?_) (λhb=>?_)
  .replace h:=eu (Bn hb) h;iterate 7 refine gn ?_
   refine pt (nl ?_);exact jz ((),true) h []
  .replace h:=cK (ux hb) h;refine ga (ap rfl BO) ?_;refine fr 1 ?_;refine eO rfl rfl rfl rfl rfl rfl (an rfl cJ jj rfl) ⟨rfl,trivial⟩ ?_;refine ga (ap rfl cU) ?_;refine fr 1 ?_;refine eO rfl rfl rfl rfl rfl rfl (an rfl ic jj rfl) ⟨rfl,trivial⟩ ?_;refine ga (jg rfl rfl tX) ?_;obtain⟨r7,e,h⟩:=aa h;refine gc (ay [.tmp 14,.const (.int .i64 (0)),.tmp 17] rfl rfl yk rfl (dR k a1.2.1 0 (a0.2.2.2.2.1.length:Int) r7 e)) ?_;refine ga (ig rfl) ?_;refine pf (nl ?_);exact jz ((), !r7) h []
 .
  refine cv h (λh=>?_) (λh=>?_)
  .refine sr (cq (nt (rx ?_)));cases h;exact ra
  .refine sk (sr (cq (nt (aE ?_))));cases h;exact ra
def eV(k:Nat)(a0:Int)(a1:Int):Option Bool:=
 (cH (0≤a1)).bind λ_=>
 some (decide ((qi .u8 (io .u8 a0 a1) 1)=1))
theorem gJ(k:Nat)(a0:Int)(a1:Int)(r:Bool)(h:eV k a0 a1=some r):
 du Tryz.prog 75 [.eq (.int .u8 a0),I a1] [] (λ_:Unit=>(bJ [.eq (.bool r)],[])):=by
 unfold eV at h
 replace h:=bb h
 refine du.of 10 Tryz.func75 rfl Tryz.ntmps75 rfl λS w0=>?_
 refine sr ?_
 refine cq ?_
 refine nt ?_
 refine sr ?_
 iterate 2 refine mq ?_
 obtain⟨u1,c,h⟩:=aa h
 refine jb (uw rfl (ao c)) ?_
 refine jb (Qd rfl) ?_
 refine jb (hJ rfl) ?_
 refine aq ?_
 refine nt ?_
 refine aE ?_
 cases h
 exact ra
def cX(k:Nat)(a0:ab)(x8:(List Int)):Nat->(Int×Int)->Option (Except Int Int)
 |0,_=>none
 |n+1,y9=>
  if y9.2 < (x8.length:Int) then((aV x8 y9.2).bind λc=>
  (ck (a0.1 - 1)).bind λh=>
  (dK k c 0 h).bind λr=>
  if¬(r=true) then(some (.error 3)) else((eV k y9.1 c).bind λl=>
  if l=true then(some (.error 4)) else((fZ k y9.1 c).bind λj=>
  (ck (y9.2+1)).bind λe=>
  cX k a0 x8 n (j,e)))) else(some (.ok y9.1))
def cY(k:Nat)(a0:ab)(a1:(List (List Int))):Nat->(Int×Int)->Option (Except Int Unit)
 |0,_=>none
 |n+1,y4=>
  if y4.2 < (a1.length:Int) then(bE (α:=Int) ((aV a1 y4.2).bind λx8=>
  cX k a0 x8 k (y4.1,0)) (λe=>some (.error e)) λx6=>
  (ck (y4.2+1)).bind λc=>
  cY k a0 a1 n (x6,c)) else(some (.ok ()))
def iV(k:Nat)(a0:ab)(a1:(List (List Int))):Option Int:=
 if 3 < (a1.length:Int) then(some 6) else(bE (α:=Unit) (cY k a0 a1 k (0,0)) (some) λ_=>
 some 0)
theorem ti(k:Nat)(a0:ab)(a1:(List (List Int)))(r:Int)(h:iV k a0 a1=some r):
 du Tryz.prog 101 [.rep am a0,.rep (.slice Tl) a1] [] (λ_:Unit=>(bJ [I r],[])):=by
 unfold iV at h
 replace h:=bb h
 refine du.of 39 Tryz.func101 rfl Tryz.ntmps101 rfl λS w0=>?_
 refine sr ?_
 refine bx λb1=>?_
 refine cq ?_
 refine nt ?_
 refine aj ?_
 refine sr ?_
 refine mq ?_
 refine ol qs ?_
 refine jb (lR rfl) ?_
 refine nt ?_
 refine ci h (λh=>?_) (λh=>?_)
 .
  refine sr (cq (nt (rx ?_)));cases h;exact ra
 .
  refine sk (sr (cq (nt ?_)));refine dG (Z:=Unit) (α:=Unit) (λz3 x2=>[]) (λz3 x2=>[]) (λe=>e=r) h (λe h=>Option.some.inj h) (λK hR h=>?_) (λz3 x2 h=>?_)
  .refine sr (mq ?_);refine ol qs ?_;refine fq rfl ?_;refine nt (ak (aM (λz5 y4=>[(2,Pt b1),(5,.eq (.int .u8 y4.1)),(13,.rep (.slice Tl) a1),(14,I (a1.length:Int)),(15,I y4.2)]) (λz5 y4=>[.obj b1 26 (.rep am a0)]) (cY k a0 a1) k () (0,0) (λ_=>rfl) h (SE.fin [0] ⟨rfl,rfl,rfl,rfl,rfl,trivial⟩ rfl) (λn z5 y4 h=>?_)));unfold cY at h;refine sr (jb (bO rfl) ?_);refine nt (aj (ci h (λh=>?_) (λh=>?_)))
   .refine sk (dG (Z:=Unit) (α:=Int) (λz7 x6=>[(2,Pt b1),(5,.eq (.int .u8 x6)),(13,.rep (.slice Tl) a1),(14,I (a1.length:Int)),(15,I y4.2)]) (λz7 x6=>[.obj b1 26 (.rep am a0)]) (λe=>e=r) h (λe h=>hR e h) (λK hR h=>?_) (λz7 x6 h=>?_))
    .refine ak (sr ?_);obtain⟨x8,X,h⟩:=aa h;refine jb (ba (t:=Tl) rfl qs iN X) ?_;refine ja (aA (t:=Tl) rfl iN rfl) ?_;refine aq (nt (sr ?_));refine mq ?_;refine ol jr ?_;refine fq rfl ?_;refine nt (ak (aM (λj y9=>[(2,Pt b1),(5,.eq (.int .u8 y9.1)),(13,.rep (.slice Tl) a1),(14,I (a1.length:Int)),(15,I y4.2),(19,.rep Tl x8),(20,I (x8.length:Int)),(21,I y9.2)]) (λj y9=>[.obj b1 26 (.rep am a0)]) (cX k a0 x8) k () (y4.1,0) (λ_=>rfl) h (SE.fin [0] ⟨rfl,rfl,rfl,rfl,rfl,rfl,rfl,rfl,trivial⟩ rfl) (λn j y9 h=>?_)));unfold cX at h;refine sr (jb (bO rfl) ?_);refine nt (aj (ci h (λh=>?_) (λh=>?_)))
     .refine sk (aj (ak (sr ?_)));obtain⟨c,y,h⟩:=aa h;refine jb (ba (t:=Ti) rfl jr cJ y) ?_;refine ja (aA (t:=Ti) rfl cJ rfl) ?_;refine aq (nt (aj (sr ?_)));refine mq ?_;refine fl fG ?_;refine lo cJ ?_;obtain⟨O,x,h⟩:=aa h;refine jb (eE rfl x) ?_;obtain⟨U,F,h⟩:=aa h;refine jc (ay [.tmp 25,.const (.int .i64 (0)),.tmp 28] rfl rfl yk rfl (dR k c 0 O U F)) ?_;refine ja (ig rfl) ?_;refine nt (cw h (λh=>?_) (λh=>?_))
      .refine sr (cq (nt (rx (br (bL (br (bL (bz ?_))))))));obtain rfl:=hR _ h;exact ra
      .refine sk (aj (sr ?_));iterate 2 refine mq ?_
       obtain⟨Q,E,h⟩:=aa h;refine jb (ay [.tmp 31,.tmp 32] rfl rfl Ih rfl (gJ k y9.1 c Q E)) ?_;refine nt (cv h (λh=>?_) (λh=>?_))
       .refine sr (cq (nt (rx (br (bL (br (bL (bz ?_))))))));obtain rfl:=hR _ h;exact ra
       .refine sk (ae ?_);iterate 2 refine mq ?_
        obtain⟨l,D,h⟩:=aa h;refine jb (ay [.tmp 34,.tmp 35] rfl rfl OG rfl (j9 k y9.1 c l D)) ?_;refine aq (aI (aS (tn (ae ?_))));obtain⟨M,u,h⟩:=aa h;refine jb (bH rfl u) ?_;refine mq (nl ?_);exact jz ((),(l,M)) h [0]
     .refine hH (cC (cC (dO (bn ?_))));exact jz ((),y9.1) h [0]
    .refine ae ?_;obtain⟨J,s,h⟩:=aa h;refine jb (bH rfl s) ?_;refine mq (nl ?_);exact jz ((),(x6,J)) h [0]
   .refine xa ?_;exact jz ((),()) h []
  .refine sr (cq (nt (aE ?_)));cases h;exact ra
def fa(k:Nat)(a0:ab):Nat->Int->Option (Except Int Unit)
 |0,_=>none
 |n+1,c=>
  if c < (a0.2.2.2.2.1.length:Int) then((aV a0.2.2.2.2.1 c).bind λj=>
  (iV k a0 j).bind λe=>
  if¬(e=0) then(some (.error e)) else((ck (c+1)).bind λh=>
  fa k a0 n h)) else(some (.ok ()))
def eZ(k:Nat)(a0:ab):Nat->Int->Option (Except Int Unit)
 |0,_=>none
 |n+1,c=>
  if c < (a0.2.2.2.2.2.length:Int) then((aV a0.2.2.2.2.2 c).bind λj=>
  (eR k a0 j).bind λe=>
  if¬(e=0) then(some (.error e)) else((ck (c+1)).bind λh=>
  eZ k a0 n h)) else(some (.ok ()))
def mI(k:Nat)(a0:ab):Option Int:=
 (((dK k a0.1 1 5).bind λr4=>
 if¬(r4=true) then(some true) else((dK k a0.2.1 0 3).bind λr5=>
 if¬(r5=true) then(some true) else((dK k a0.2.2.1 0 3).bind λr6=>
 if¬(r6=true) then(some true) else((dK k a0.2.2.2.1 1 3).bind λr7=>
 some (!r7))))):Option (Bool)).bind λx2=>
 if x2=true then(some 1) else(if(a0.2.2.2.2.1.length:Int) < 1 then(some 7) else(if 6 < (a0.2.2.2.2.1.length:Int) then(some 6) else(bE (α:=Unit) (fa k a0 k 0) (some) λ_=>
 if 8 < (a0.2.2.2.2.2.length:Int) then(some 6) else(bE (α:=Unit) (eZ k a0 k 0) (some) λ_=>
 some 0))))
theorem xR(k:Nat)(a0:ab)(r:Int)(h:mI k a0=some r):
 du Tryz.prog 70 [.rep am a0] [] (λ_:Unit=>(bJ [I r],[])):=by
 unfold mI at h
 replace h:=bb h
 refine du.of 73 Tryz.func70 rfl Tryz.ntmps70 rfl λS w0=>?_
 refine sr ?_
 refine bx λb1=>?_
 refine cq ?_
 refine nt ?_
 refine aj ?_
 refine aN (Z:=Unit) (α:=Bool) (λz3 x2=>[(1,Pt b1),(31,.eq (.bool x2))]) (λz3 x2=>[.obj b1 26 (.rep am a0)]) h (λK h=>?_) (λz3 x2 h=>?_)
 .
  refine ae (fl fG ?_);refine lo cJ ?_;obtain⟨r4,UE,h⟩:=aa h;refine jc (ay [.tmp 11,.const (.int .i64 (1)),.const (.int .i64 (5))] rfl rfl yk rfl (dR k a0.1 1 5 r4 UE)) ?_;refine ja (ig rfl) ?_;refine mq ?_;refine bN (s:=14) rfl (λhb=>?_) (λhb=>?_)
  .replace h:=eu (Bn hb) h;iterate 4 refine gn ?_
   refine pt ?_;refine mq ?_;iterate 4 refine gn ?_
   refine pt ?_;refine mq ?_;iterate 4 refine gn ?_
   refine pt (nl ?_);exact jz ((),true) h [0]
  .replace h:=cK (ux hb) h;refine ga (ap rfl uS) ?_;refine eO rfl rfl rfl rfl rfl rfl (an rfl cJ jj rfl) ⟨rfl,trivial⟩ ?_;obtain⟨r5,zz,h⟩:=aa h;refine gc (ay [.tmp 16,.const (.int .i64 (0)),.const (.int .i64 (3))] rfl rfl yk rfl (dR k a0.2.1 0 3 r5 zz)) ?_;refine ga (ig rfl) ?_;refine pf ?_;refine mq ?_;refine bN (s:=20) rfl (λhb=>?_) (λhb=>?_)
   .replace h:=eu (Bn hb) h;iterate 4 refine gn ?_
    refine pt ?_;refine mq ?_;iterate 4 refine gn ?_
    refine pt (nl ?_);exact jz ((),true) h [0]
   .replace h:=cK (ux hb) h;refine ga (ap rfl sC) ?_;refine eO rfl rfl rfl rfl rfl rfl (an rfl cJ jj rfl) ⟨rfl,trivial⟩ ?_;obtain⟨r6,qt,h⟩:=aa h;refine gc (ay [.tmp 22,.const (.int .i64 (0)),.const (.int .i64 (3))] rfl rfl yk rfl (dR k a0.2.2.1 0 3 r6 qt)) ?_;refine ga (ig rfl) ?_;refine pf ?_;refine mq ?_;refine bN (s:=26) rfl (λhb=>?_) (λhb=>?_)
    .replace h:=eu (Bn hb) h;iterate 4 refine gn ?_
     refine pt (nl ?_);exact jz ((),true) h [0]
    .replace h:=cK (ux hb) h;refine ga (ap rfl yg) ?_;refine eO rfl rfl rfl rfl rfl rfl (an rfl cJ jj rfl) ⟨rfl,trivial⟩ ?_;obtain⟨r7,mw,h⟩:=aa h;refine gc (ay [.tmp 28,.const (.int .i64 (1)),.const (.int .i64 (3))] rfl rfl yk rfl (dR k a0.2.2.2.1 1 3 r7 mw)) ?_;refine ga (ig rfl) ?_;refine pf (nl ?_);exact jz ((), !r7) h [0]
 .
  refine cv h (λh=>?_) (λh=>?_)
  .refine sr (cq (nt (rx ?_)));cases h;exact ra
  .refine sk (aj (sr (fl cU ?_)));refine lo ic ?_;refine ol tX ?_;refine aq (nt (ak (sr ?_)));refine mq ?_;refine jb (bO rfl) ?_;refine aq (nt ?_);refine ci h (λh=>?_) (λh=>?_)
   .refine sr (cq (nt (aE (bL (bz ?_)))));cases h;exact ra
   .refine sr (mq ?_);refine jb (lR rfl) ?_;refine aq (nt ?_);refine ci h (λh=>?_) (λh=>?_)
    .refine sr (cq (nt (aE (bL (bz ?_)))));cases h;exact ra
    .refine bi (aS (tn (dG (Z:=Unit) (α:=Unit) (λz9 x8=>[(1,Pt b1)]) (λz9 x8=>[.obj b1 26 (.rep am a0)]) (λe=>e=r) h (λe h=>Option.some.inj h) (λK hR h=>?_) (λz9 x8 h=>?_))))
     .refine sr (fl cU ?_);refine lo ic ?_;refine ol tX ?_;refine fq rfl ?_;refine nt (ak (aM (λx j=>[(1,Pt b1),(42,.rep (.slice (.slice Tl)) a0.2.2.2.2.1),(43,I (a0.2.2.2.2.1.length:Int)),(44,I j)]) (λx j=>[.obj b1 26 (.rep am a0)]) (fa k a0) k () 0 (λ_=>rfl) h (SE.fin [0] ⟨rfl,rfl,rfl,rfl,trivial⟩ rfl) (λn x j h=>?_)));unfold fa at h;refine sr (jb (bO rfl) ?_);refine nt (aj (ci h (λh=>?_) (λh=>?_)))
      .refine sk (aj (ak (sr ?_)));obtain⟨Y,J,h⟩:=aa h;refine jb (ba (t:=(.slice Tl)) rfl tX qE J) ?_;refine ja (aA (t:=(.slice Tl)) rfl qE rfl) ?_;refine aq (nt (sr ?_));refine lo cV ?_;refine mq ?_;obtain⟨mc,O,h⟩:=aa h;refine jb (ay [.tmp 48,.tmp 49] rfl rfl Q3 rfl (ti k a0 Y mc O)) ?_;refine aq (nt (sr ?_));refine mq ?_;refine jb (dW rfl) ?_;refine nt (cn h (λh=>?_) (λh=>?_))
       .refine sr (mq ?_);refine aq (nt (aE (br (bL (bz ?_)))));obtain rfl:=hR _ h;exact ra
       .refine bi (aS (tn (ae ?_)));obtain⟨X,F,h⟩:=aa h;refine jb (bH rfl F) ?_;refine mq (nl ?_);exact jz ((),X) h [0]
      .refine xa ?_;exact jz ((),()) h [0]
     .refine aj (sr (fl f8 ?_));refine lo m9 ?_;refine ol D4 ?_;refine jb (lR rfl) ?_;refine nt (ci h (λh=>?_) (λh=>?_))
      .refine sr (cq (nt (rx ?_)));cases h;exact ra
      .refine sk (dG (Z:=Unit) (α:=Unit) (λu y=>[]) (λu y=>[]) (λe=>e=r) h (λe h=>Option.some.inj h) (λK hR h=>?_) (λu y h=>?_))
       .refine sr (fl f8 ?_);refine lo m9 ?_;refine ol D4 ?_;refine fq rfl ?_;refine nt (ak (aM (λl c=>[(1,Pt b1),(60,Rs aH a0.2.2.2.2.2),(61,I (a0.2.2.2.2.2.length:Int)),(62,I c)]) (λl c=>[.obj b1 26 (.rep am a0)]) (eZ k a0) k () 0 (λ_=>rfl) h (SE.fin [0] ⟨rfl,rfl,rfl,rfl,trivial⟩ rfl) (λn l c h=>?_)));unfold eZ at h;refine sr (jb (bO rfl) ?_);refine nt (aj (ci h (λh=>?_) (λh=>?_)))
        .refine sk (aj (ak (sr ?_)));obtain⟨U,E,h⟩:=aa h;refine jb (ba (t:=aH) rfl D4 jE E) ?_;refine ja (aA (t:=aH) rfl jE rfl) ?_;refine aQ rfl rfl rfl (aX rfl vB Ce) trivial λUF=>?_;refine aF rfl rfl (aC rfl jE rfl rfl rfl) ⟨rfl,rfl,trivial⟩ ?_;refine nt (sr (fr 1 ?_));refine lo cV ?_;refine fr 1 ?_;refine lo jE ?_;obtain⟨gw,M,h⟩:=aa h;refine jb (ay [.tmp 66,.tmp 67] rfl rfl QL rfl (lu k a0 U gw M)) ?_;refine aq (nt (sr ?_));refine mq ?_;refine jb (dW rfl) ?_;refine nt (cn h (λh=>?_) (λh=>?_))
         .refine sr (mq ?_);refine aq (nt (aE (br (bL (bz ?_)))));obtain rfl:=hR _ h;exact ra
         .refine bi (aS (tn (ae ?_)));obtain⟨Q,D,h⟩:=aa h;refine jb (bH rfl D) ?_;refine mq (nl ?_);exact jz ((),Q) h [1]
        .refine xa ?_;exact jz ((),()) h []
       .refine sr (cq (nt (aE ?_)));cases h;exact ra
def cE(k:Nat)(a0:ab)(a1:Int):Nat->((List Int)×Int)->Option (List Int)
 |0,_=>none
 |n+1,y5=>
  if y5.2 < 5 then((((cH (0≤y5.2/\y5.2 < 5)).bind λ_=>
  (eV k a1 y5.2).bind λe=>
  if e=true then((cH (0≤y5.2/\y5.2 < 5)).bind λ_=>
  some (List.set (List.set y5.1 (Int.toNat y5.2) (-1:Int)) (Int.toNat y5.2) a0.2.1)) else(some (List.set y5.1 (Int.toNat y5.2) (-1:Int)))):Option ((List Int))).bind λx7=>
  (ck (y5.2+1)).bind λc=>
  cE k a0 a1 n (x7,c)) else(some y5.1)
def eQ(k:Nat)(a0:ab)(a1:Int):Option (List Int):=
 ((cE k a0 a1 k ([0,0,0,0,0],0)):Option ((List Int))).bind λx3=>
 some x3
theorem pY{M:Md Tryz.prog}{bm:Nat}{c0 c1 c2 c3 c4 c5:Value}(hK:Kn M bm 0 [c0,c1,c2,c3,c4,c5])(k:Nat)(a0:ab)(a1:Int)(r:(List Int))(h:eQ k a0 a1=some r):
 bX M 78 [.rep (.mo (Pv bm) [c0,c1,c2,c3,c4,c5] am) a0,.eq (.int .u8 a1)] [] (λ_:Unit=>(bJ [.rep Tr r],[])):=by
 unfold eQ at h
 replace h:=bb h
 refine bX.of 24 Tryz.func78 rfl Tryz.ntmps78 rfl λS w0=>?_
 refine sr ?_
 refine aQ rfl rfl rfl (aX rfl Jo LL) trivial λb1=>?_
 refine nt ?_
 refine sr ?_
 refine aQ rfl rfl rfl (aX rfl Jo LL) trivial λb2=>?_
 refine nt ?_
 refine aN (Z:=Unit) (α:=(List Int)) (λz4 x3=>[(4,Pt b1),(5,Pt b2)]) (λz4 x3=>[.obj b1 80 (.rep Tr [0,0,0,0,0]),.obj b2 80 (.rep Tr x3)]) h (λK h=>?_) (λz4 x3 h=>?_)
 .
  refine sr (fq rfl ?_);refine nt (ak (aM (λz6 y5=>[(0,.rep (.mo (Pv bm) [c0,c1,c2,c3,c4,c5] am) a0),(1,.eq (.int .u8 a1)),(4,Pt b1),(5,Pt b2),(7,I y5.2)]) (λz6 y5=>[.obj b1 80 (.rep Tr [0,0,0,0,0]),.obj b2 80 (.rep Tr y5.1)]) (cE k a0 a1) k () ([0,0,0,0,0],0) (λ_=>rfl) h (SE.fin [1,0] ⟨rfl,rfl,rfl,rfl,rfl,trivial⟩ rfl) (λn z6 y5 h=>?_)));unfold cE at h;refine sr (jb (bO rfl) ?_);refine nt (aj (ci h (λh=>?_) (λh=>?_)))
  .refine sk (aN (Z:=Unit) (α:=(List Int)) (λz8 x7=>[(0,.rep (.mo (Pv bm) [c0,c1,c2,c3,c4,c5] am) a0),(1,.eq (.int .u8 a1)),(4,Pt b1),(5,Pt b2),(7,I y5.2)]) (λz8 x7=>[.obj b1 80 (.rep Tr [0,0,0,0,0]),.obj b2 80 (.rep Tr x7)]) h (λK h=>?_) (λz8 x7 h=>?_))
   .refine ak (sr (mq ?_));refine aq (nt (sr ?_));refine mq ?_;obtain⟨u9,e,h⟩:=aa h;refine jb (dX rfl CB cJ (ao e).1 (ao e).2) ?_;refine fr 1 ?_;refine aF rfl rfl (gG (t:=Ti) (off:=0) (i:=y5.2) (N:=5) rfl cJ .int rfl rfl rfl rfl (ao e).1 (ao e).2 rfl) ⟨rfl,rfl,trivial⟩ ?_;refine nt (sr ?_);iterate 2 refine mq ?_
    obtain⟨u,l,h⟩:=aa h;refine jb (ay [.tmp 12,.tmp 13] rfl rfl Ih rfl (gJ k a1 y5.2 u l)) ?_;refine nt (cv h (λh=>?_) (λh=>?_))
    .refine ae ?_;iterate 2 refine mq ?_
     refine ja (lb rfl) ?_;refine ja (gI rfl g7) ?_;refine ja (iC 1 false rfl uS rfl rfl) ?_;refine ja (ji (t:=Ti) rfl cJ (hK.sub 1 1 rfl (le_of_ble_eq_true rfl)) rfl rfl) ?_;obtain⟨x,c,h⟩:=aa h;refine jb (dX rfl CB cJ (ao c).1 (ao c).2) ?_;refine aF rfl rfl (gG (t:=Ti) (off:=0) (i:=y5.2) (N:=5) rfl cJ .int rfl rfl rfl rfl (ao c).1 (ao c).2 rfl) ⟨rfl,rfl,trivial⟩ ?_;refine aI (bn ?_);exact jz ((),List.set (List.set y5.1 (Int.toNat y5.2) (-1:Int)) (Int.toNat y5.2) a0.2.1) h [1,0]
    .refine bi (bn ?_);exact jz ((),List.set y5.1 (Int.toNat y5.2) (-1:Int)) h [1,0]
   .refine ae ?_;obtain⟨s,j,h⟩:=aa h;refine jb (bH rfl j) ?_;refine mq (nl ?_);exact jz ((),(x7,s)) h [0,1]
  .refine xa ?_;exact jz ((),y5.1) h [0,1]
 .
  refine sr (fr 1 ?_);refine lo je ?_;refine fr 1 ?_;refine aF rfl rfl (aC rfl je rfl rfl rfl) ⟨rfl,rfl,trivial⟩ ?_;refine nt (aE ?_);obtain rfl:=Option.some.inj h;exact aL () [.rep Tr x3] 0 ⟨⟨_,_,_,_,_,rfl,(.head _),je,(nK),rfl⟩,trivial⟩ rfl
def c8(k:Nat)(a0:(List Int))(a1:Int):Nat->Int->Option (Except Int Unit)
 |0,_=>none
 |n+1,y3=>
  if y3 < (a0.length:Int) then((aV a0 y3).bind λx5=>
  if a1=x5 then(some (.error y3)) else((ck (y3+1)).bind λx6=>
  c8 k a0 a1 n x6)) else(some (.ok ()))
def gh(k:Nat)(a0:(List Int))(a1:Int):Option Int:=
 bE (α:=Unit) (c8 k a0 a1 k 0) (some) λ_=>
 some (-1:Int)
theorem mt(k:Nat)(a0:(List Int))(a1:Int)(r:Int)(h:gh k a0 a1=some r):
 du Tryz.prog 82 [.rep Tl a0,I a1] [] (λ_:Unit=>(bJ [I r],[])):=by
 unfold gh at h
 replace h:=bb h
 refine du.of 19 Tryz.func82 rfl Tryz.ntmps82 rfl λS w0=>?_
 refine sr ?_
 refine cq ?_
 refine nt ?_
 refine dG (Z:=Unit) (α:=Unit) (λz2 x1=>[]) (λz2 x1=>[]) (λe=>e=r) h (λe h=>Option.some.inj h) (λK hR h=>?_) (λz2 x1 h=>?_)
 .
  refine sr (mq ?_);refine ol jr ?_;refine fq rfl ?_;refine nt (ak (aM (λz4 y3=>[(0,.rep Tl a0),(1,I a1),(7,I (a0.length:Int)),(8,I y3)]) (λz4 y3=>[]) (c8 k a0 a1) k () 0 (λ_=>rfl) h (SE.fin [] ⟨rfl,rfl,rfl,rfl,trivial⟩ rfl) (λn z4 y3 h=>?_)));unfold c8 at h;refine sr (jb (bO rfl) ?_);refine nt (aj (ci h (λh=>?_) (λh=>?_)))
  .refine sk (aj (ak (sr (mq ?_))));refine aq (nt (sr ?_));iterate 3 refine mq ?_
   obtain⟨x5,j,h⟩:=aa h;refine jb (ba (t:=Ti) rfl jr cJ j) ?_;refine ja (aA (t:=Ti) rfl cJ rfl) ?_;refine jb (hJ rfl) ?_;refine nt (ci h (λh=>?_) (λh=>?_))
   .refine sr (mq ?_);refine aq (nt (aE (br (bL (bz ?_)))));obtain rfl:=hR _ h;exact ra
   .refine bi (aS (tn (ae ?_)));obtain⟨x6,c,h⟩:=aa h;refine jb (bH rfl c) ?_;refine mq (nl ?_);exact jz ((),x6) h []
  .refine xa ?_;exact jz ((),()) h []
 .
  refine sr (cq (nt (aE ?_)));cases h;exact ra
def kQ(k:Nat)(a0:Int):Option Bool:=
 some (!decide (a0=a0))
theorem ri(k:Nat)(a0:Int)(r:Bool)(h:kQ k a0=some r):
 du Tryz.prog 172 [I a0] [] (λ_:Unit=>(bJ [.eq (.bool r)],[])):=by
 unfold kQ at h
 replace h:=bb h
 refine du.of 6 Tryz.func172 rfl Tryz.ntmps172 rfl λS w0=>?_
 refine sr ?_
 refine cq ?_
 refine nt ?_
 refine sr ?_
 iterate 2 refine mq ?_
 refine jb (dW rfl) ?_
 refine aq ?_
 refine nt ?_
 refine aE ?_
 cases h
 exact ra
def oz(k:Nat)(a0:Int)(a1:Int):Option Bool:=
 (((kQ k a0).bind λr3=>
 if r3=true then((kQ k a1).bind λr4=>
 if¬(r4=true) then(some true) else(some (decide (a0 < a1)))) else(some (decide (a0 < a1)))):Option (Bool)).bind λx1=>
 some x1
theorem Ac(k:Nat)(a0:Int)(a1:Int)(r:Bool)(h:oz k a0 a1=some r):
 du Tryz.prog 162 [I a0,I a1] [] (λ_:Unit=>(bJ [.eq (.bool r)],[])):=by
 unfold oz at h
 replace h:=bb h
 refine du.of 17 Tryz.func162 rfl Tryz.ntmps162 rfl λS w0=>?_
 refine sr ?_
 refine cq ?_
 refine nt ?_
 refine aN (Z:=Unit) (α:=Bool) (λz2 x1=>[(4,.eq (.bool x1))]) (λz2 x1=>[]) h (λK h=>?_) (λz2 x1 h=>?_)
 .
  refine ae (mq ?_);obtain⟨r3,e,h⟩:=aa h;refine ja (ay [.tmp 5] rfl rfl M9 rfl (ri k a0 r3 e)) ?_;refine mq ?_;refine bN (s:=7) rfl (λhb=>?_) (λhb=>?_)
  .replace h:=eu (MQ hb) h;refine gm ?_;obtain⟨r4,c,h⟩:=aa h;refine ga (ay [.tmp 8] rfl rfl M9 rfl (ri k a1 r4 c)) ?_;refine ga (ig rfl) ?_;refine pt ?_;refine mq ?_;refine bN (s:=12) rfl (λhb=>?_) (λhb=>?_)
   .replace h:=eu (Bn hb) h;iterate 3 refine gn ?_
    refine pt ?_;refine aq (nl ?_);exact jz ((),true) h []
   .replace h:=cK (ux hb) h;refine gm ?_;refine gm ?_;refine gb (bO rfl) ?_;refine pf ?_;refine aq (nl ?_);exact jz ((),decide (a0 < a1)) h []
  .replace h:=cK (MS hb) h;iterate 3 refine gn ?_
   refine pf ?_;refine mq ?_;refine gm ?_;refine gm ?_;refine gb (bO rfl) ?_;refine pf ?_;refine aq (nl ?_);exact jz ((),decide (a0 < a1)) h []
 .
  refine aE ?_;cases h;exact ra
def bG(k:Nat)(a1:Int):Nat->((List Int)×Int)->Option (List Int)
 |0,_=>none
 |n+1,y6=>
  ((if a1 < y6.2 then((aV y6.1 y6.2).bind λu=>
  (ck (y6.2 - 1)).bind λs=>
  (aV y6.1 s).bind λr=>
  (oz k u r).bind λx=>
  some x) else(some false)):Option (Bool)).bind λx8=>
  if x8=true then((ck (y6.2 - 1)).bind λe=>
  (ck (y6.2 - 1)).bind λl=>
  (aV y6.1 l).bind λc=>
  (aV y6.1 y6.2).bind λj=>
  (aV y6.1 y6.2).bind λD=>
  (aV (List.set y6.1 (Int.toNat y6.2) c) e).bind λy=>
  (ck (y6.2 - 1)).bind λh=>
  bG k a1 n (List.set (List.set y6.1 (Int.toNat y6.2) c) (Int.toNat e) j,h)) else(some y6.1)
def be(k:Nat)(a1:Int)(a2:Int):Nat->((List Int)×Int)->Option (List Int)
 |0,_=>none
 |n+1,y2=>
  if y2.2 < a2 then(((bG k a1 k (y2.1,y2.2)):Option ((List Int))).bind λx4=>
  (ck (y2.2+1)).bind λc=>
  be k a1 a2 n (x4,c)) else(some y2.1)
def bV(k:Nat)(a0:(List Int))(a1:Int)(a2:Int):Option (List Int):=
 (ck (a1+1)).bind λx1=>
 be k a1 a2 k (a0,x1)
theorem jf(k:Nat)(a0:(List Int))(c:Value)(a1:Int)(a2:Int)(r:(List Int))(h:bV k a0 a1 a2=some r):
 du Tryz.prog 156 [.eq c,I a1,I a2] [.sl c 3 Ti a0] (λ_:Unit=>(bJ [],[.sl c 3 Ti r])):=by
 unfold bV at h
 replace h:=bb h
 refine du.of 49 Tryz.func156 rfl Tryz.ntmps156 rfl λS w0=>?_
 refine sr ?_
 refine mq ?_
 obtain⟨x1,UT,h⟩:=aa h
 refine jb (bH rfl UT) ?_
 refine aq ?_
 refine nt ?_
 refine ak ?_
 refine aM (λz3 y2=>[(0,.eq c),(1,I a1),(2,I a2),(6,I y2.2)]) (λz3 y2=>[.sl c 3 Ti y2.1]) (be k a1 a2) k () (a0,x1) (λ_=>rfl) h (SE.fin [0] ⟨rfl,rfl,rfl,rfl,trivial⟩ rfl) (λn z3 y2 h=>?_)
 unfold be at h
 refine aj ?_
 refine sr ?_
 iterate 2 refine mq ?_
 refine jb (bO rfl) ?_
 refine nt ?_
 refine ci h (λh=>?_) (λh=>?_)
 .
  refine sk (aN (Z:=Unit) (α:=(List Int)) (λz5 x4=>[(0,.eq c),(1,I a1),(2,I a2),(6,I y2.2)]) (λz5 x4=>[.sl c 3 Ti x4]) h (λK h=>?_) (λz5 x4 h=>?_))
  .refine ak (sr (mq ?_));refine aq (nt (ak ?_));refine aM (λz7 y6=>[(0,.eq c),(1,I a1),(2,I a2),(6,I y2.2),(7,I y6.2)]) (λz7 y6=>[.sl c 3 Ti y6.1]) (bG k a1) k () (y2.1,y2.2) (λ_=>rfl) h (SE.fin [0] ⟨rfl,rfl,rfl,rfl,rfl,trivial⟩ rfl) (λn z7 y6 h=>?_);unfold bG at h;refine aj (aN (Z:=Unit) (α:=Bool) (λz9 x8=>[(0,.eq c),(1,I a1),(2,I a2),(6,I y2.2),(7,I y6.2),(30,.eq (.bool x8))]) (λz9 x8=>[.sl c 3 Ti y6.1]) h (λK h=>?_) (λz9 x8 h=>?_))
   .refine cG ?_;refine dm ?_;refine dm ?_;refine db (lR rfl) ?_;refine yD rfl rfl rfl (bA rfl) ⟨rfl,trivial⟩ (λhb=>?_) (λhb=>?_)
    .replace h:=eu (tw hb) h;refine d5 rfl rfl rfl rfl rfl (bA rfl) ⟨rfl,rfl,trivial⟩ ?_;refine d5 rfl rfl rfl rfl rfl (bA rfl) ⟨rfl,rfl,trivial⟩ ?_;obtain⟨UJ,x,h⟩:=aa h;refine kK 0 rfl rfl rfl rfl rfl rfl (cI (t:=Ti) rfl jr cJ x) ⟨rfl,rfl,rfl,trivial⟩ ?_;refine kK 0 rfl rfl rfl rfl rfl rfl (gY (i:=Int.toNat y6.2) (off:=0) rfl cJ (λ_=>rfl) rfl (dN x).2.2 rfl) ⟨rfl,rfl,trivial⟩ ?_;refine d5 rfl rfl rfl rfl rfl (bA rfl) ⟨rfl,rfl,trivial⟩ ?_;refine d5 rfl rfl rfl rfl rfl (bA rfl) ⟨rfl,rfl,trivial⟩ ?_;obtain⟨UI,qt,h⟩:=aa h;refine d5 rfl rfl rfl rfl rfl (eE rfl qt) ⟨rfl,rfl,rfl,trivial⟩ ?_;obtain⟨UH,u,h⟩:=aa h;refine kK 0 rfl rfl rfl rfl rfl rfl (cI (t:=Ti) rfl jr cJ u) ⟨rfl,rfl,rfl,trivial⟩ ?_;refine kK 0 rfl rfl rfl rfl rfl rfl (gY (i:=Int.toNat UI) (off:=0) rfl cJ (λ_=>rfl) rfl (dN u).2.2 rfl) ⟨rfl,rfl,trivial⟩ ?_;refine df dZ ?_;obtain⟨F,zz,h⟩:=aa h;refine gb (ay [.tmp 23,.tmp 28] rfl rfl QR rfl (Ac k UJ UH F zz)) ?_;refine pt (nl ?_);exact jz ((),F) h [0]
    .replace h:=cK (tz hb) h;iterate 9 refine dg ?_
     refine df dZ ?_;refine gn ?_;refine pf (nl ?_);exact jz ((),false) h [0]
   .refine cv h (λh=>?_) (λh=>?_)
    .refine sk (aj (ak (rA ?_)));refine bv rfl rfl rfl (bA rfl) ⟨rfl,trivial⟩ ?_;refine bv rfl rfl rfl (bA rfl) ⟨rfl,trivial⟩ ?_;refine bv rfl rfl rfl (bA rfl) ⟨rfl,trivial⟩ ?_;refine bv rfl rfl rfl (bA rfl) ⟨rfl,trivial⟩ ?_;obtain⟨y,mw,h⟩:=aa h;refine bv rfl rfl rfl (eE rfl mw) ⟨rfl,rfl,trivial⟩ ?_;refine bv rfl rfl rfl (bA rfl) ⟨rfl,trivial⟩ ?_;refine bv rfl rfl rfl (bA rfl) ⟨rfl,trivial⟩ ?_;obtain⟨UG,mc,h⟩:=aa h;refine bv rfl rfl rfl (eE rfl mc) ⟨rfl,rfl,trivial⟩ ?_;obtain⟨E,s,h⟩:=aa h;refine gp 0 rfl rfl rfl rfl (cI (t:=Ti) rfl jr cJ s) ⟨rfl,rfl,trivial⟩ ?_;refine gp 0 rfl rfl rfl rfl (gY (i:=Int.toNat UG) (off:=0) rfl cJ (λ_=>rfl) rfl (dN s).2.2 rfl) ⟨rfl,trivial⟩ ?_;refine bv rfl rfl rfl (bA rfl) ⟨rfl,trivial⟩ ?_;refine bv rfl rfl rfl (bA rfl) ⟨rfl,trivial⟩ ?_;obtain⟨D,l,h⟩:=aa h;refine gp 0 rfl rfl rfl rfl (cI (t:=Ti) rfl jr cJ l) ⟨rfl,rfl,trivial⟩ ?_;refine gp 0 rfl rfl rfl rfl (gY (i:=Int.toNat y6.2) (off:=0) rfl cJ (λ_=>rfl) rfl (dN l).2.2 rfl) ⟨rfl,trivial⟩ ?_;obtain⟨U1,j,h⟩:=aa h;refine gp 0 rfl rfl rfl rfl (cI (t:=Ti) rfl jr cJ j) ⟨rfl,rfl,trivial⟩ ?_;refine sT 15 [true,true,false,false,false,true,true,true,true,true,true,true,true,true,true] [48] [] [] rfl (by kernel_rfl) (by kernel_rfl) (by kernel_rfl) dZ (λvs hv hB=>?_);obtain⟨w0,Vl,rfl,US⟩:=ax hv;obtain⟨w1,Vk,rfl,UR⟩:=ax US;obtain⟨w2,Vj,rfl,UQ⟩:=ax UR;obtain⟨w3,Vi,rfl,UP⟩:=ax UQ;obtain⟨w4,Vh,rfl,UO⟩:=ax UP;obtain⟨w5,Vg,rfl,UN⟩:=ax UO;obtain⟨w6,Vf,rfl,UM⟩:=ax UN;obtain⟨w7,Ve,rfl,UL⟩:=ax UM;obtain⟨w8,Vb,rfl,UK⟩:=ax UL;obtain⟨w9,UZ,rfl,X⟩:=ax UK;obtain⟨Va,UY,rfl,U⟩:=ax X;obtain⟨U8,UX,rfl,Q⟩:=ax U;obtain⟨U7,UW,rfl,O⟩:=ax Q;obtain⟨U6,UV,rfl,M⟩:=ax O;obtain⟨U2,UU,rfl,J⟩:=ax M;obtain rfl:=oY J;refine⟨[0],[.sl c 3 Ti y6.1],by kernel_rfl,by decide,?_⟩;refine sP rfl rfl (gC (i:=Int.toNat y6.2) rfl cJ rfl (np j) rfl .int rfl) ⟨rfl,rfl,trivial⟩ (by kernel_rfl) ?_;obtain⟨U0,e,h⟩:=aa h;refine qw rfl rfl rfl rfl (cI (t:=Ti) rfl jr cJ e) ⟨rfl,rfl,trivial⟩ (by kernel_rfl) ?_;refine sP rfl rfl (gC (i:=Int.toNat y) rfl cJ rfl (np e) rfl .int rfl) ⟨rfl,rfl,trivial⟩ (by kernel_rfl) ?_;refine yz ?_;refine bo (SE.fin (Γ':=[(0,.eq c),(1,I a1),(2,I a2),(6,I y2.2),(7,I y6.2)]) (Δ':=[.sl c 3 Ti (List.set (List.set y6.1 (Int.toNat y6.2) E) (Int.toNat y) D)]) [0] ⟨rfl,rfl,rfl,rfl,rfl,trivial⟩ rfl) ?_;refine aS (tn (ae (mq ?_)));obtain⟨UF,gw,h⟩:=aa h;refine jb (eE rfl gw) ?_;refine aq (nl ?_);exact jz ((),(List.set (List.set y6.1 (Int.toNat y6.2) E) (Int.toNat y) D,UF)) h [0]
    .refine hH (cC (cC (dO (bn ?_))));exact jz ((),y6.1) h [0]
  .refine ae (mq ?_);obtain⟨UE,Y,h⟩:=aa h;refine jb (bH rfl Y) ?_;refine aq (nl ?_);exact jz ((),(x4,UE)) h [0]
 .
  refine hH (cC (cC (dO (jW ?_))));cases h;exact aL () [] 1 trivial rfl
def kj(k:Nat)(a0:Int):Option Int:=
 ((if 4294967296≤a0 then(some (io .u64 a0 32,32)) else(some (a0,0))):Option (Int×Int)).bind λx1=>
 ((if 65536≤x1.1 then((ck (x1.2+16)).bind λx5=>
 some (io .u64 x1.1 16,x5)) else(some (x1.1,x1.2))):Option (Int×Int)).bind λx3=>
 ((if 256≤x3.1 then((ck (x3.2+8)).bind λx8=>
 some (io .u64 x3.1 8,x8)) else(some (x3.1,x3.2))):Option (Int×Int)).bind λx6=>
 (BJ K3 (IntKind.u8.wrap x6.1)).bind λx9=>
 (ck (x9.toNat:Int)).bind λe=>
 (ck (x6.2+e)).bind λc=>
 some c
theorem qh(k:Nat)(a0:Int)(r:Int)(h:kj k a0=some r):
 du Tryz.prog 166 [.eq (.int .u64 a0)] [] (λ_:Unit=>(bJ [I r],[])):=by
 unfold kj at h
 replace h:=bb h
 refine du.of 25 Tryz.func166 rfl Tryz.ntmps166 rfl λS w0=>?_
 refine sr ?_
 refine cq ?_
 refine nt ?_
 refine aN (Z:=Unit) (α:=Int×Int) (λz2 x1=>[(0,.eq (.int .u64 x1.1)),(2,I x1.2)]) (λz2 x1=>[]) h (λK h=>?_) (λz2 x1 h=>?_)
 .
  refine sr (mq ?_);refine jb (kp rfl) ?_;refine nt (ci h (λh=>?_) (λh=>?_))
  .refine sr (mq ?_);refine bZ rfl (uw rfl (by decide)) ⟨rfl,rfl,trivial⟩ ?_;refine aq (nt (ae ?_));refine cq (nl ?_);exact jz ((),(io .u64 a0 32,32)) h []
  .refine bi (au ?_);exact jz ((),(a0,0)) h []
 .
  refine aN (Z:=Unit) (α:=Int×Int) (λz4 x3=>[(0,.eq (.int .u64 x3.1)),(2,I x3.2)]) (λz4 x3=>[]) h (λK h=>?_) (λz4 x3 h=>?_)
  .refine sr (mq ?_);refine jb (kp rfl) ?_;refine nt (ci h (λh=>?_) (λh=>?_))
   .refine sr (mq ?_);refine bZ rfl (uw rfl (by decide)) ⟨rfl,rfl,trivial⟩ ?_;refine aq (nt (ae ?_));refine mq ?_;obtain⟨x5,n,h⟩:=aa h;refine jb (bH rfl n) ?_;refine aq (nl ?_);exact jz ((),(io .u64 x1.1 16,x5)) h []
   .refine bi (au ?_);exact jz ((),(x1.1,x1.2)) h []
  .refine aN (Z:=Unit) (α:=Int×Int) (λz7 x6=>[(0,.eq (.int .u64 x6.1)),(2,I x6.2)]) (λz7 x6=>[]) h (λK h=>?_) (λz7 x6 h=>?_)
   .refine sr (mq ?_);refine jb (kp rfl) ?_;refine nt (ci h (λh=>?_) (λh=>?_))
    .refine sr (mq ?_);refine bZ rfl (uw rfl (by decide)) ⟨rfl,rfl,trivial⟩ ?_;refine aq (nt (ae ?_));refine mq ?_;obtain⟨x8,l,h⟩:=aa h;refine jb (bH rfl l) ?_;refine aq (nl ?_);exact jz ((),(io .u64 x3.1 8,x8)) h []
    .refine bi (au ?_);exact jz ((),(x3.1,x3.2)) h []
   .refine sr ?_;iterate 2 refine mq ?_
    refine ja (rP rfl RJ U5) ?_;obtain⟨x9,j,h⟩:=aa h;refine ja (zn rfl U9 j) ?_;obtain⟨u,e,h⟩:=aa h;refine ja (zo rfl U5 U3 e) ?_;obtain⟨s,c,h⟩:=aa h;refine jb (bH rfl c) ?_;refine aq (nt (aE ?_));cases h;exact ra
def pm(k:Nat)(a0:Int):Option Int:=
 (kj k a0).bind λr1=>
 some r1
theorem BZ(k:Nat)(a0:Int)(r:Int)(h:pm k a0=some r):
 du Tryz.prog 155 [.eq (.int .u64 a0)] [] (λ_:Unit=>(bJ [I r],[])):=by
 unfold pm at h
 replace h:=bb h
 refine du.of 8 Tryz.func155 rfl Tryz.ntmps155 rfl λS w0=>?_
 refine sr ?_
 refine cq ?_
 refine nt ?_
 refine aj ?_
 refine I9 (λhb=>(by cases hb)) (λhb=>?_)
 refine sk ?_
 refine sr ?_
 refine mq ?_
 obtain⟨r1,c,h⟩:=aa h
 have e:=qh k a0 r1 c
 refine ja (ay [.tmp 6] rfl rfl QQ rfl e) ?_
 refine aq ?_
 refine nt ?_
 refine aE ?_
 cases h
 exact ra
def cz(k:Nat)(a0:(List Int))(a1:Int)(a2:Int)(a3:Int):Nat->Unit->Option (List Int)
 |0,_=>none
 |n+1,y1=>
  (ck (a2 - a1)).bind λx3=>
  if x3≤12 then((bV k a0 a1 a2).bind λr4=>
  some r4) else(if a3=0 then(none) else(none))
def cP(k:Nat)(a0:(List Int))(a1:Int)(a2:Int)(a3:Int):Option (List Int):=
 cz k a0 a1 a2 a3 k ()
theorem lK(k:Nat)(a0:(List Int))(c:Value)(a1:Int)(a2:Int)(a3:Int)(r:(List Int))(h:cP k a0 a1 a2 a3=some r):
 du Tryz.prog 154 [.eq c,I a1,I a2,I a3] [.sl c 3 Ti a0] (λ_:Unit=>(bJ [],[.sl c 3 Ti r])):=by
 unfold cP at h
 replace h:=bb h
 refine du.of 134 Tryz.func154 rfl Tryz.ntmps154 rfl λS w0=>?_
 refine sr ?_
 refine cq ?_
 refine nt ?_
 refine sr ?_
 refine cq ?_
 refine nt ?_
 refine ak ?_
 refine aM (λz2 y1=>[(0,.eq c),(1,I a1),(2,I a2),(3,I a3),(8,.eq (.bool true)),(9,.eq (.bool true))]) (λz2 y1=>[.sl c 3 Ti a0]) (cz k a0 a1 a2 a3) k () () (λ_=>rfl) h (SE.fin [0] ⟨rfl,rfl,rfl,rfl,rfl,rfl,trivial⟩ rfl) (λn z2 y1 h=>?_)
 unfold cz at h
 refine ak ?_
 refine sr ?_
 iterate 2 refine mq ?_
 obtain⟨x3,e,h⟩:=aa h
 refine jb (eE rfl e) ?_
 refine aq ?_
 refine nt ?_
 refine aj ?_
 refine sr ?_
 refine mq ?_
 refine jb (C0 rfl) ?_
 refine nt ?_
 refine ci h (λh=>?_) (λh=>?_)
 .
  refine sr ?_;iterate 3 refine mq ?_
  obtain⟨r4,j,h⟩:=aa h;refine kc (ay [.tmp 24,.tmp 25,.tmp 26] rfl rfl QU rfl (jf k a0 c a1 a2 r4 j)) ?_;refine nt (rx (bL (bz (bL ?_))));cases h;exact aL () [] 1 trivial rfl
 .
  refine sk (aj (sr (mq ?_)));refine jb (hJ rfl) ?_;refine nt (ci h (λh=>?_) (λh=>?_))
  .cases h
  .cases h
def fU(k:Nat)(a0:(List Int)):Option (List Int):=
 (pm k (IntKind.u64.wrap (a0.length:Int))).bind λr1=>
 (cP k a0 0 (a0.length:Int) r1).bind λr2=>
 some r2
theorem td(k:Nat)(a0:(List Int))(c:Value)(r:(List Int))(h:fU k a0=some r):
 du Tryz.prog 140 [.eq c] [.sl c 3 Ti a0] (λ_:Unit=>(bJ [],[.sl c 3 Ti r])):=by
 unfold fU at h
 replace h:=bb h
 refine du.of 11 Tryz.func140 rfl Tryz.ntmps140 rfl λS w0=>?_
 refine sr ?_
 refine mq ?_
 refine ka (mA rfl rfl jr) ?_
 refine aq ?_
 refine nt ?_
 refine ae ?_
 iterate 3 refine mq ?_
 refine ja (rP rfl U3 TW) ?_
 obtain⟨r1,j,h⟩:=aa h
 have n:=BZ k (IntKind.u64.wrap (a0.length:Int)) r1 j
 refine ja (ay [.tmp 8] rfl rfl QV rfl n) ?_
 obtain⟨r2,e,h⟩:=aa h
 have l:=lK k a0 c 0 (a0.length:Int) r1 r2 e
 refine mg rfl rfl rfl (ay [.tmp 5,.const (.int .i64 (0)),.tmp 6,.tmp 9] rfl rfl QW rfl l) ⟨rfl,rfl,rfl,rfl,trivial⟩ ?_
 refine aI ?_
 refine jW ?_
 cases h
 exact aL () [] 1 trivial rfl
def cF(k:Nat)(a1:Int)(x3:(List (List Int))):Nat->Int->Option (Except (Int ⊕ (List Int)) Unit)
 |0,_=>none
 |n+1,y4=>
  if y4 < (x3.length:Int) then((aV x3 y4).bind λx6=>
  (gh k x6 a1).bind λr7=>
  if 0≤r7 then(((if 0 < r7 then((ck (r7 - 1)).bind λs=>
  (aV x6 s).bind λe=>
  (cH (bM (length ([]:(List Int))+length [e]))).bind λ_=>
  some (([]:(List Int))++[e])) else(some ([]:(List Int)))):Option ((List Int))).bind λx8=>
  (((ck (r7+1)).bind λl=>
  if l < (x6.length:Int) then((ck (r7+1)).bind λj=>
  (aV x6 j).bind λc=>
  (cH (bM (length x8+length [c]))).bind λ_=>
  some (x8++[c])) else(some x8)):Option ((List Int))).bind λr=>
  (fU k r).bind λu=>
  some (.error (Sum.inr u:(Int ⊕ (List Int))))) else((ck (y4+1)).bind λh=>
  cF k a1 x3 n h)) else(some (.ok ()))
def ee(k:Nat):Nat->ab->Int->Int->Option ((Int ⊕ (List Int)))
 |0,_,_,_=>none
 |m0+1,a0,a1,a2=>
  bE (α:=Unit) ((aV a0.2.2.2.2.1 a2).bind λx3=>
  cF k a1 x3 k 0) (some) λ_=>
  ((if 0 < a2 then((ck (a2 - 1)).bind λh=>
  ((ee k m0) a0 a1 h).bind λc=>
  if J4 c=true then((ck (1+(P4 c))).bind λe=>
  some e) else(some 1)) else(some 1)):Option (Int)).bind λj=>
  some (Sum.inl j:(Int ⊕ (List Int)))
theorem lm{M:Md Tryz.prog}{bm:Nat}{c0 c1 c2 c3 c4 c5:Value}(hK:Kn M bm 0 [c0,c1,c2,c3,c4,c5])(k:Nat):
 ∀(n:Nat) (a0:ab) (a1:Int) (a2:Int) (r:(Int ⊕ (List Int))),ee k n a0 a1 a2=some r->bX M 112 [.rep (.mo (Pv bm) [c0,c1,c2,c3,c4,c5] am) a0,I a1,I a2] ([]) (λ_:Unit=>(bJ [.rep (.pl 164 166 Tl) r],[])):=by
 intro n
 induction n with
 |zero=>intro a0 a1 a2 r h;cases h
 |succ m0 ih=>
  intro a0 a1 a2 r h;rw [ee] at h;replace h:=bb h;refine bX.of 80 Tryz.func112 rfl Tryz.ntmps112 rfl λS w0=>?_;refine sr (cq (nt ?_));refine dG (Z:=Unit) (α:=Unit) (λz2 x1=>[(0,.rep (.mo (Pv bm) [c0,c1,c2,c3,c4,c5] am) a0),(1,I a1),(2,I a2)]) (λz2 x1=>[]) (λe=>e=r) h (λe h=>Option.some.inj h) (λK hR h=>?_) (λz2 x1 h=>?_)
  .refine sr (mq ?_);refine ja (lb rfl) ?_;refine ja (gI rfl g7) ?_;refine ja (iC 1 false rfl cU rfl rfl) ?_;refine ja (ji (t:=(.slice (.slice Tl))) rfl ic (hK.sub 4 1 rfl (le_of_ble_eq_true rfl)) rfl rfl) ?_;refine mq ?_;obtain⟨x3,UJ,h⟩:=aa h;refine jb (ba (t:=(.slice Tl)) rfl tX qE UJ) ?_;refine ja (aA (t:=(.slice Tl)) rfl qE rfl) ?_;refine ol qs ?_;refine fq rfl ?_;refine nt (ak (aM (λz5 y4=>[(0,.rep (.mo (Pv bm) [c0,c1,c2,c3,c4,c5] am) a0),(1,I a1),(2,I a2),(21,.rep (.slice Tl) x3),(22,I (x3.length:Int)),(23,I y4)]) (λz5 y4=>[]) (cF k a1 x3) k () 0 (λ_=>rfl) h (SE.fin [] ⟨rfl,rfl,rfl,rfl,rfl,rfl,trivial⟩ rfl) (λn z5 y4 h=>?_)));unfold cF at h;refine sr (jb (bO rfl) ?_);refine nt (aj (ci h (λh=>?_) (λh=>?_)))
   .refine sk (aj (ak (sr ?_)));obtain⟨x6,UI,h⟩:=aa h;refine jb (ba (t:=Tl) rfl qs iN UI) ?_;refine ja (aA (t:=Tl) rfl iN rfl) ?_;refine aq (nt (sr ?_));iterate 2 refine mq ?_
    obtain⟨r7,UK,h⟩:=aa h;refine jb (ay [.tmp 27,.tmp 28] rfl rfl QJ rfl (mt k x6 a1 r7 UK)) ?_;refine aq (nt (sr ?_));refine mq ?_;refine jb (kp rfl) ?_;refine nt (ci h (λh=>?_) (λh=>?_))
    .refine sr (cq (nt ?_));refine aN (Z:=Value) (α:=(List Int)) (λz9 x8=>[(8,.rep Tl x6),(9,I r7),(10,.eq z9)]) (λz9 x8=>[.sl z9 3 Ti x8]) h (λK h=>?_) (λz9 x8 h=>?_)
     .refine sr (mq ?_);refine jb (lR rfl) ?_;refine nt (ci h (λh=>?_) (λh=>?_))
      .refine ae ?_;iterate 3 refine mq ?_
       obtain⟨UN,U,h⟩:=aa h;refine jb (eE rfl U) ?_;obtain⟨x,Q,h⟩:=aa h;refine jb (ba (t:=Ti) rfl jr cJ Q) ?_;refine ja (aA (t:=Ti) rfl cJ rfl) ?_;refine ja (bf (t:=Ti) [(.tmp 39,_)] [x] rfl rfl ec (.cons rfl .int .nil) rfl rfl) ?_;refine eJ (SE.nil 3 Ti) ?_;obtain⟨UP,Y,h⟩:=aa h;refine eh rfl rfl rfl (cx rfl rfl ec (ao Y)) ⟨rfl,rfl,trivial⟩ λUF=>?_;refine aq (nl ?_);exact jz (UF,([]:(List Int))++[x]) h [0]
      .refine bi (au (bo (SE.nil 3 Ti) ?_));exact jz ((.slice none 0 0),([]:(List Int))) h [0]
     .refine aN (Z:=Value) (α:=(List Int)) (λc j=>[(10,.eq c)]) (λc j=>[.sl c 3 Ti j]) h (λK h=>?_) (λc j h=>?_)
      .refine sr (mq ?_);obtain⟨UM,O,h⟩:=aa h;refine jb (bH rfl O) ?_;refine mq ?_;refine ol jr ?_;refine jb (bO rfl) ?_;refine nt (ci h (λh=>?_) (λh=>?_))
       .refine ae ?_;iterate 3 refine mq ?_
        obtain⟨UL,J,h⟩:=aa h;refine jb (bH rfl J) ?_;obtain⟨u,F,h⟩:=aa h;refine jb (ba (t:=Ti) rfl jr cJ F) ?_;refine ja (aA (t:=Ti) rfl cJ rfl) ?_;refine ja (bf (t:=Ti) [(.tmp 52,_)] [u] rfl rfl ec (.cons rfl .int .nil) rfl rfl) ?_;obtain⟨UO,X,h⟩:=aa h;refine eh rfl rfl rfl (cx rfl rfl ec (ao X)) ⟨rfl,rfl,trivial⟩ λUE=>?_;refine aq (nl ?_);exact jz (UE,x8++[u]) h [0]
       .refine bi (au ?_);exact jz (z9,x8) h [0]
      .refine sr (mq ?_);obtain⟨UH,mc,h⟩:=aa h;refine ka (ay [.tmp 55] rfl rfl QX rfl (td k j c UH mc)) ?_;refine nt (sr (mq ?_));refine eJ (ju [10,55,57] ⟨rfl,rfl,rfl,trivial⟩) ?_;refine ja (cR [(0,.tmp 57,_)] rfl P5 MI OU (gA ⟨rfl,trivial⟩) rfl) ?_;refine ja (Kp (t0:=164) (t:=Ti) rfl TU) ?_;refine aq (nt (aE (br (bL (bz ?_)))));obtain rfl:=hR _ h;exact ra
    .refine bi (aS (tn (ae ?_)));obtain⟨zz,E,h⟩:=aa h;refine jb (bH rfl E) ?_;refine mq (nl ?_);exact jz ((),zz) h []
   .refine xa ?_;exact jz ((),()) h []
  .refine sr (cq (nt ?_));refine aN (Z:=Unit) (α:=Int) (λs l=>[(11,I l)]) (λs l=>[]) h (λK h=>?_) (λs l h=>?_)
   .refine sr (mq ?_);refine jb (lR rfl) ?_;refine nt (ci h (λh=>?_) (λh=>?_))
    .refine sr ?_;iterate 3 refine mq ?_
     obtain⟨qt,D,h⟩:=aa h;refine jb (eE rfl D) ?_;obtain⟨UG,gw,h⟩:=aa h;refine jc (aU [.tmp 64,.tmp 65,.tmp 67] rfl rfl Ij rfl (ih a0 a1 qt UG gw)) ?_;refine bZ rfl (C3 rfl Gj (by decide)) ⟨rfl,trivial⟩ ?_;refine mq ?_;refine xr ?_;refine xr ?_;refine aQ rfl rfl rfl (aX rfl FG Nn) trivial λUQ=>?_;refine aF rfl rfl (aC rfl MV trivial rfl rfl) ⟨rfl,rfl,trivial⟩ ?_;refine aq (nt (sr ?_));refine mq (nt ?_);refine cv h (λh=>?_) (λh=>?_)
     .refine ae (mq ?_);refine fl Du ?_;refine lo cJ ?_;obtain⟨mw,y,h⟩:=aa h;refine jb (bH rfl y) ?_;refine aq (nl ?_);exact jz ((),mw) h []
     .refine bi (au ?_);exact jz ((),1) h []
    .refine bi (au ?_);exact jz ((),1) h []
   .refine sr (mq ?_);refine ja (cR [(0,.tmp 77,_)] rfl P6 FG OW (gA ⟨rfl,trivial⟩) rfl) ?_;refine ja (Kq (t1:=166) (t:=Ti) rfl TV) ?_;refine aq (nt (aE ?_));cases h;exact ra
def ix(k:Nat)(a0:Nj):Option (List Int):=
 some ([]:(List Int))
theorem qc(k:Nat)(a0:Nj)(r:(List Int))(h:ix k a0=some r):
 du Tryz.prog 190 [.rep PY a0] [] (λ_:Unit=>(bJ [.rep Tl r],[])):=by
 unfold ix at h
 replace h:=bb h
 refine du.of 3 Tryz.func190 rfl Tryz.ntmps190 rfl λS w0=>?_
 refine sr ?_
 refine bx λb1=>?_
 refine cq ?_
 refine nt ?_
 refine sr ?_
 refine cq ?_
 refine nt ?_
 refine aE ?_
 refine bo (eH (t:=Tl) (x:=([]:(List Int))) 2 rfl .nil rfl rfl) ?_
 cases h
 exact ra
def iv(k:Nat)(a0:Ni):Option (List Int):=
 some a0
theorem pW(k:Nat)(a0:Ni)(r:(List Int))(h:iv k a0=some r):
 du Tryz.prog 191 [.rep PX a0] [] (λ_:Unit=>(bJ [.rep Tl r],[])):=by
 unfold iv at h
 replace h:=bb h
 refine du.of 5 Tryz.func191 rfl Tryz.ntmps191 rfl λS w0=>?_
 refine sr ?_
 refine bx λb1=>?_
 refine cq ?_
 refine nt ?_
 refine sr ?_
 refine fl Le ?_
 refine lo iN ?_
 refine aq ?_
 refine nt ?_
 refine aE ?_
 cases h
 exact ra
def bY(k:Nat)(a0:ab)(a1:(List Int))(r5:(List Int)):Nat->Int->Option (Except Int Unit)
 |0,_=>none
 |n+1,y6=>
  if y6 < (r5.length:Int) then((aV r5 y6).bind λx8=>
  (cH (0≤x8/\x8 < 5)).bind λ_=>
  (aV a1 x8).bind λe=>
  if(sq 0 a0.2.1)≤e then(some (.error x8)) else((ck (y6+1)).bind λc=>
  bY k a0 a1 r5 n c)) else(some (.ok ()))
def dy(k:Nat)(a0:ab)(a1:(List Int))(a2:Int)(a3:Int):Option Int:=
 bE (α:=Unit) ((ee k k a0 a2 a3).bind λr4=>
 (It r4 (λn=>ix k n) (λl=>iv k l)).bind λr5=>
 bY k a0 a1 r5 k 0) (some) λ_=>
 some (-1:Int)
theorem jJ{M:Md Tryz.prog}{bm:Nat}{c0 c1 c2 c3 c4 c5:Value}(hK:Kn M bm 0 [c0,c1,c2,c3,c4,c5])(k:Nat)(a0:ab)(a1:(List Int))(a2:Int)(a3:Int)(r:Int)(h:dy k a0 a1 a2 a3=some r):
    bX M 113 [.rep (.mo (Pv bm) [c0,c1,c2,c3,c4,c5] am) a0,.rep Tr a1,.eq (.int .i64 a2),.eq (.int .i64 a3)] [] (λ_:Unit=>(bJ [.eq (.int .i64 r)],[])):=by
  unfold dy at h
  replace h:=bb h
  refine bX.of 33 Tryz.func113 rfl Tryz.ntmps113 rfl λS w0=>?_
  refine aj ?_
  refine ae ?_
  refine aQ rfl rfl rfl (wC rfl rfl) ⟨rfl,trivial⟩ λb1=>?_
  refine D9 rfl ?_
  refine aI ?_
  refine au ?_
  show JC _ _ _ _ _
  refine dG (Z:=Unit) (α:=Unit) (λz3 x2=>[]) (λz3 x2=>[]) (λe=>e=r) h (λe h=>Option.some.inj h) (λK hR h=>?_) (λz3 x2 h=>?_)
  .
    refine aj ?_
    refine ae ?_
    refine hP rfl rfl ?_
    refine hP rfl rfl ?_
    refine hP rfl rfl ?_
    obtain⟨r4,D,h⟩:=aa h
    have E:=lm hK k k a0 a2 a3 r4 D
    refine bZ rfl (aU [.tmp 11,.tmp 12,.tmp 13] rfl rfl Ij rfl E) ⟨rfl,rfl,rfl,trivial⟩ ?_
    obtain⟨r5,c,h⟩:=aa h
    refine bZ rfl (Kr (r:=.rep Tl r5) rfl rfl vP vO (λn hd=>.agI (qc k n r5 (by rw [hd] at c;exact c))) (λl hd=>.agS (pW k l r5 (by rw [hd] at c;exact c)))) ⟨rfl,trivial⟩ ?_
    refine bZ rfl (jg rfl rfl jr) ⟨rfl,trivial⟩ ?_
    refine fq rfl ?_
    refine aI ?_
    refine au ?_
    show JC _ _ _ _ _
    refine ak ?_
    refine aM (λz7 y6=>[(0,.rep (.mo (Pv bm) [c0,c1,c2,c3,c4,c5] am) a0),(5,.eq (Pv b1)),(15,.rep Tl r5),(16,.eq (.int .i64 (r5.length:Int))),(17,.eq (.int .i64 y6))]) (λz7 y6=>[.obj b1 80 (.rep Tr a1)]) (bY k a0 a1 r5) k () 0 (λ_=>rfl) h (SE.fin [0] ⟨rfl,rfl,rfl,rfl,rfl,trivial⟩ rfl) (λn z7 y6 h=>?_)
    unfold bY at h
    refine aj ?_
    refine ae ?_
    refine bZ rfl (bO rfl) ⟨rfl,rfl,trivial⟩ ?_
    refine aI ?_
    refine au ?_
    show JC _ _ _ _ _
    refine aj ?_
    refine jd rfl (λhb=>?_) (λhb=>?_)
    . replace h:=eu (tw hb) h
      refine bi ?_
      refine au ?_
      show JC _ _ _ _ _
      refine aj ?_
      refine ak ?_
      refine aj ?_
      refine ae ?_
      obtain⟨x8,y,h⟩:=aa h
      refine bZ rfl (ba (t:=Ti) rfl jr cJ y) ⟨rfl,rfl,trivial⟩ ?_
      refine bZ rfl (aA (t:=Ti) rfl cJ rfl) ⟨rfl,trivial⟩ ?_
      refine vl rfl rfl ?_
      refine aI ?_
      refine au ?_
      show JC _ _ _ _ _
      refine aj ?_
      refine cG ?_
      refine fL rfl rfl rfl (bA rfl) ⟨rfl,trivial⟩ ?_
      obtain⟨u9,u,h⟩:=aa h
      refine fL rfl rfl rfl (dX rfl CB cJ (ao u).1 (ao u).2) ⟨rfl,rfl,trivial⟩ ?_
      obtain⟨F,s,h⟩:=aa h
      refine yC 0 rfl rfl rfl rfl (nc (t:=Ti) (off:=0) (i:=x8) (N:=5) rfl cJ (λ_=>rfl) rfl rfl rfl rfl s) ⟨rfl,trivial⟩ ?_
      refine fL rfl rfl rfl (bA rfl) ⟨rfl,trivial⟩ ?_
      refine fL rfl rfl rfl (lb rfl) ⟨rfl,trivial⟩ ?_
      refine fL rfl rfl rfl (gI rfl g7) ⟨rfl,trivial⟩ ?_
      refine fL rfl rfl rfl (iC 1 false rfl uS rfl rfl) ⟨rfl,trivial⟩ ?_
      refine fL rfl rfl rfl (ji (t:=Ti) rfl cJ (hK.sub 1 1 rfl (le_of_ble_eq_true rfl)) rfl rfl) ⟨rfl,trivial⟩ ?_
      refine fL rfl rfl rfl (G7 rfl rfl) ⟨rfl,rfl,trivial⟩ ?_
      refine CJ (by kernel_rfl) dZ ?_
      refine bZ rfl (kp rfl) ⟨rfl,rfl,trivial⟩ ?_
      refine aI ?_
      refine au ?_
      show JC _ _ _ _ _
      refine jd rfl (λhb=>?_) (λhb=>?_)
      . replace h:=eu (tw hb) h
        refine aj ?_
        refine ae ?_
        refine hP rfl rfl ?_
        refine vl rfl rfl ?_
        refine aI ?_
        refine au ?_
        show JC _ _ _ _ _
        refine aE ?_
        refine bL ?_
        refine bz ?_
        refine bz ?_
        refine bL ?_
        refine bz ?_
        obtain rfl:=hR _ h
        exact aL () [_] 0 ⟨rfl,trivial⟩ rfl
      . replace h:=cK (tz hb) h
        refine bi ?_
        refine aS ?_
        refine au ?_
        show JC _ _ _ _ _
        refine ae ?_
        obtain⟨x,j,h⟩:=aa h
        refine bZ rfl (bH rfl j) ⟨rfl,rfl,trivial⟩ ?_
        refine hP rfl rfl ?_
        refine aI ?_
        refine au ?_
        exact vn ((),x) h (SE.fin [0] ⟨rfl,rfl,rfl,rfl,rfl,trivial⟩ rfl)
    . replace h:=cK (tz hb) h
      refine hH ?_
      refine cC ?_
      refine cC ?_
      refine dO ?_
      refine au ?_
      exact vn ((),()) h (SE.fin [] trivial rfl)
  .
    refine aj ?_
    refine ae ?_
    refine D9 rfl ?_
    refine aI ?_
    refine au ?_
    show JC _ _ _ _ _
    refine aE ?_
    obtain rfl:=Option.some.inj h
    exact aL () [_] 0 ⟨rfl,trivial⟩ rfl
def cu(k:Nat)(a0:ab)(a1:(List Int))(a2:Int):Nat->((List Int)×Int)->Option (List Int)
 |0,_=>none
 |n+1,y6=>
  if y6.2 < a0.1 then((((ee k k a0 y6.2 a2).bind λc=>
  if J4 c=true then(if a0.2.2.2.1≤(P4 c) then((cH (0≤y6.2/\y6.2 < 5)).bind λ_=>
  some (List.set y6.1 (Int.toNat y6.2) (-1:Int))) else(some y6.1)) else(if¬(J4 c=true) then((cH (0≤y6.2/\y6.2 < 5)).bind λ_=>
  (aV a1 y6.2).bind λl=>
  if 0≤l then((cH (0≤y6.2/\y6.2 < 5)).bind λ_=>
  (aV a1 y6.2).bind λj=>
  (ck (j+1)).bind λh=>
  (cH (0≤y6.2/\y6.2 < 5)).bind λ_=>
  some (List.set y6.1 (Int.toNat y6.2) h)) else((dy k a0 a1 y6.2 a2).bind λr=>
  if 0≤r then((cH (0≤y6.2/\y6.2 < 5)).bind λ_=>
  some (List.set y6.1 (Int.toNat y6.2) 0)) else(some y6.1))) else(some y6.1))):Option ((List Int))).bind λx8=>
  (ck (y6.2+1)).bind λe=>
  cu k a0 a1 a2 n (x8,e)) else(some y6.1)
def gK(k:Nat)(a0:ab)(a1:(List Int))(a2:Int):Option (List Int):=
 ((cu k a0 a1 a2 k (a1,0)):Option ((List Int))).bind λx4=>
 some x4
theorem qR{M:Md Tryz.prog}{bm:Nat}{c0 c1 c2 c3 c4 c5:Value}(hK:Kn M bm 0 [c0,c1,c2,c3,c4,c5])(k:Nat)(a0:ab)(a1:(List Int))(a2:Int)(r:(List Int))(h:gK k a0 a1 a2=some r):
 bX M 79 [.rep (.mo (Pv bm) [c0,c1,c2,c3,c4,c5] am) a0,.rep Tr a1,I a2] [] (λ_:Unit=>(bJ [.rep Tr r],[])):=by
 unfold gK at h
 replace h:=bb h
 refine bX.of 60 Tryz.func79 rfl Tryz.ntmps79 rfl λS w0=>?_
 refine sr ?_
 refine bx λb1=>?_
 refine aQ rfl rfl rfl (aX rfl Jo LL) trivial λb2=>?_
 refine nt ?_
 refine sr ?_
 refine fr 1 ?_
 refine lo je ?_
 refine aQ rfl rfl rfl (aX rfl Jo LL) trivial λb3=>?_
 refine aF rfl rfl (aC rfl je rfl rfl rfl) ⟨rfl,rfl,trivial⟩ ?_
 refine nt ?_
 refine aN (Z:=Unit) (α:=(List Int)) (λz5 x4=>[(6,Pt b2),(7,Pt b3)]) (λz5 x4=>[.obj b2 80 (.rep Tr [0,0,0,0,0]),.obj b3 80 (.rep Tr x4)]) h (λK h=>?_) (λz5 x4 h=>?_)
 .
  refine sr (mq ?_);refine ja (lb rfl) ?_;refine ja (gI rfl g7) ?_;refine ja (iC 1 false rfl fG rfl rfl) ?_;refine ja (ji (t:=Ti) rfl cJ (hK.sub 0 1 rfl (le_of_ble_eq_true rfl)) rfl rfl) ?_;refine fq rfl ?_;refine nt (ak (aM (λz7 y6=>[(0,.rep (.mo (Pv bm) [c0,c1,c2,c3,c4,c5] am) a0),(2,I a2),(4,Pt b1),(6,Pt b2),(7,Pt b3),(16,I a0.1),(17,I y6.2)]) (λz7 y6=>[.obj b1 80 (.rep Tr a1),.obj b2 80 (.rep Tr [0,0,0,0,0]),.obj b3 80 (.rep Tr y6.1)]) (cu k a0 a1 a2) k () (a1,0) (λ_=>rfl) h (SE.fin [1,2,0] ⟨rfl,rfl,rfl,rfl,rfl,rfl,rfl,trivial⟩ rfl) (λn z7 y6 h=>?_)));unfold cu at h;refine sr (jb (bO rfl) ?_);refine nt (aj (ci h (λh=>?_) (λh=>?_)))
  .refine sk (aN (Z:=Unit) (α:=(List Int)) (λz9 x8=>[(0,.rep (.mo (Pv bm) [c0,c1,c2,c3,c4,c5] am) a0),(2,I a2),(4,Pt b1),(6,Pt b2),(7,Pt b3),(16,I a0.1),(17,I y6.2)]) (λz9 x8=>[.obj b1 80 (.rep Tr a1),.obj b2 80 (.rep Tr [0,0,0,0,0]),.obj b3 80 (.rep Tr x8)]) h (λK h=>?_) (λz9 x8 h=>?_))
   .refine ak (sr (mq ?_));refine aq (nt (sr ?_));iterate 3 refine mq ?_
    obtain⟨U,F,h⟩:=aa h;refine jc (aU [.tmp 20,.tmp 21,.tmp 22] rfl rfl Ij rfl (lm hK k k a0 y6.2 a2 U F)) ?_;refine nt (ak (sr (bZ rfl (C3 rfl Gj (by decide)) ⟨rfl,trivial⟩ ?_)));refine xr ?_;refine xr ?_;refine nt (cv h (λh=>?_) (λh=>?_))
    .refine sr (aQ rfl rfl rfl (aX rfl FG Nn) trivial λUE=>?_);refine aF rfl rfl (aC rfl MV trivial rfl rfl) ⟨rfl,rfl,trivial⟩ ?_;refine nt (aj (cG ?_));refine da (ap rfl Du) ?_;refine ea 0 (an rfl cJ jj rfl) ?_;refine dm ?_;refine da (lb rfl) ?_;refine da (gI rfl g7) ?_;refine da (iC 1 false rfl yg rfl rfl) ?_;refine da (ji (t:=Ti) rfl cJ (hK.sub 3 1 rfl (le_of_ble_eq_true rfl)) rfl rfl) ?_;refine df dZ ?_;refine jb (kp rfl) ?_;refine nt (ci h (λh=>?_) (λh=>?_))
     .refine ae (mq ?_);obtain⟨qt,j,h⟩:=aa h;refine jb (dX rfl CB cJ (ao j).1 (ao j).2) ?_;refine fr 3 ?_;refine aF rfl rfl (gG (t:=Ti) (off:=0) (i:=y6.2) (N:=5) rfl cJ .int rfl rfl rfl rfl (ao j).1 (ao j).2 rfl) ⟨rfl,rfl,trivial⟩ ?_;refine aI (aS (bn ?_));exact jz ((),List.set y6.1 (Int.toNat y6.2) (-1:Int)) h [2,3,0]
     .refine bi (aS (bn ?_));exact jz ((),y6.1) h [1,2,3]
    .refine sr (bZ rfl (Kv rfl NN (by decide)) ⟨rfl,trivial⟩ ?_);refine xr ?_;refine xr ?_;refine nt (cw h (λh=>?_) (λh=>?_))
     .refine sr (aQ rfl rfl rfl (aX rfl MI Q9) trivial λzz=>?_);refine aF rfl rfl (aC rfl PZ trivial rfl rfl) ⟨rfl,rfl,trivial⟩ ?_;refine nt (sr (mq ?_));obtain⟨mw,s,h⟩:=aa h;refine jb (dX rfl CB cJ (ao s).1 (ao s).2) ?_;obtain⟨Y,D,h⟩:=aa h;refine fr 1 ?_;refine ka (nc (t:=Ti) (off:=0) (i:=y6.2) (N:=5) rfl cJ (λ_=>rfl) rfl rfl rfl rfl D) ?_;refine jb (kp rfl) ?_;refine nt (ci h (λh=>?_) (λh=>?_))
      .refine ae ?_;iterate 2 refine mq ?_
       obtain⟨u16,l,h⟩:=aa h;refine jb (dX rfl CB cJ (ao l).1 (ao l).2) ?_;obtain⟨X,y,h⟩:=aa h;refine ka (nc (t:=Ti) (off:=0) (i:=y6.2) (N:=5) rfl cJ (λ_=>rfl) rfl rfl rfl rfl y) ?_;obtain⟨O,x,h⟩:=aa h;refine jb (bH rfl x) ?_;obtain⟨mc,e,h⟩:=aa h;refine jb (dX rfl CB cJ (ao e).1 (ao e).2) ?_;refine fr 3 ?_;refine aF rfl rfl (gG (t:=Ti) (off:=0) (i:=y6.2) (N:=5) rfl cJ .int rfl rfl rfl rfl (ao e).1 (ao e).2 rfl) ⟨rfl,rfl,trivial⟩ ?_;refine aI (aS (bn ?_));exact jz ((),List.set y6.1 (Int.toNat y6.2) O) h [1,3,0]
      .refine sr (mq ?_);refine lo je ?_;iterate 2 refine mq ?_
       obtain⟨Q,E,h⟩:=aa h;refine bZ rfl (aU [.tmp 50,.tmp 51,.tmp 52,.tmp 53] rfl rfl Na rfl (jJ hK k a0 a1 y6.2 a2 Q E)) ⟨rfl,rfl,rfl,rfl,trivial⟩ ?_;refine jb (kp rfl) ?_;refine nt (ci h (λh=>?_) (λh=>?_))
       .refine ae (mq ?_);obtain⟨gw,c,h⟩:=aa h;refine jb (dX rfl CB cJ (ao c).1 (ao c).2) ?_;refine fr 3 ?_;refine aF rfl rfl (gG (t:=Ti) (off:=0) (i:=y6.2) (N:=5) rfl cJ .int rfl rfl rfl rfl (ao c).1 (ao c).2 rfl) ⟨rfl,rfl,trivial⟩ ?_;refine aI (aS (bn ?_));exact jz ((),List.set y6.1 (Int.toNat y6.2) 0) h [1,3,0]
       .refine bi (aS (bn ?_));exact jz ((),y6.1) h [0,2,3]
     .refine bi (aS (bn ?_));exact jz ((),y6.1) h [0,1,2]
   .refine ae ?_;obtain⟨J,u,h⟩:=aa h;refine jb (bH rfl u) ?_;refine mq (nl ?_);exact jz ((),(x8,J)) h [0,1,2]
  .refine xa ?_;exact jz ((),y6.1) h [1,2]
 .
  refine sr (fr 1 ?_);refine lo je ?_;refine fr 1 ?_;refine aF rfl rfl (aC rfl je rfl rfl rfl) ⟨rfl,rfl,trivial⟩ ?_;refine nt (aE ?_);obtain rfl:=Option.some.inj h;exact aL () [.rep Tr x4] 0 ⟨⟨_,_,_,_,_,rfl,(.head _),je,(nK),rfl⟩,trivial⟩ rfl
def dk{σ:Type}(k:Nat)(a0:Int)(a3:Int)(self:Int->Int->σ->Option (Bool×σ)):Nat->(Int×σ)->Option (Except (Bool×σ) (σ))
 |0,_=>none
 |n+1,y5=>
  if y5.1 < a3 then((fZ k a0 y5.1).bind λr7=>
  (ck (y5.1+1)).bind λx8=>
  (self r7 x8 y5.2).bind λr9=>
  if¬(r9.1=true) then(some (.error (false,r9.2))) else((ck (y5.1+1)).bind λc=>
  dk k a0 a3 self n (c,r9.2))) else(some (.ok y5.2))
def dw{σ:Type}(k:Nat)(Y:σ->Int->Option (σ×Bool))(a3:Int):Nat->Int->Int->σ->Option (Bool×σ)
 |0,_,_,_=>none
 |m0+1,a0,a1,s0=>
  (Y s0 a0).bind λr1=>
  if¬(r1.2=true) then(some (false,r1.1)) else(bE (α:=σ) (dk k a0 a3 (dw k Y a3 m0) k (a1,r1.1)) (some) λx3=>
  some (true,x3))
theorem rX{M:Md Tryz.prog}{σ Z:Type}(E:Z->σ->List D)(l:Nat)(Y:σ->Int->Option (σ×Bool))(k:Nat)(u:Nat)(a3:Int)(j:Nat)(c:Nat)(hY:∀z s p r,Y s p=some r->YT M l [.eq (.int .u8 p)] (E z s) (λz':Z=>(.eq (.bool r.2),E z' r.1))):
 ∀(n:Nat) (a0:Int) (a1:Int) (z0:Z) (s0:σ) (r:Bool×σ),dw k Y a3 n a0 a1 s0=some r->bX M 107 [.eq (.int .u8 a0),I a1,Pt u,Pt j,Pt c] ([.obj u 137 (.eq (.func (.yield l) #[] #[])),.obj j 3 (I a3),.obj c 136 (.eq (.func (.func 107) #[] #[(Pv u),(Pv j),(Pv c)]))]++E z0 s0) (λz:Z=>(bJ [.eq (.bool r.1)],[.obj u 137 (.eq (.func (.yield l) #[] #[])),.obj j 3 (I a3),.obj c 136 (.eq (.func (.func 107) #[] #[(Pv u),(Pv j),(Pv c)]))]++E z r.2)):=by
 intro n
 induction n with
 |zero=>intro a0 a1 z0 s0 r h;cases h
 |succ m0 ih=>
  intro a0 a1 z0 s0 r h;rw [dw] at h;replace h:=bb h;refine bX.of 27 Tryz.func107 rfl Tryz.ntmps107 rfl λS w0=>?_;refine sr (cq (nt (aj (sr ?_))));refine lo P0 ?_;refine mq ?_;obtain⟨r1,U,h⟩:=aa h;refine fr 2 ?_;refine fr 2 ?_;refine fr 2 ?_;refine I0 [.obj u 137 (.eq (.func (.yield l) #[] #[])),.obj j 3 (I a3),.obj c 136 (.eq (.func (.func 107) #[] #[(Pv u),(Pv j),(Pv c)]))] rfl rfl rfl (J8 [.tmp 10] rfl rfl rfl (hY z0 s0 a0 r1 U)) ⟨rfl,rfl,trivial⟩ λz2=>?_;refine ja (ig rfl) ?_;refine nt (cw h (λh=>?_) (λh=>?_))
  .refine sr (cq (nt (rx ?_)));cases h;exact tY z2 [_] ⟨rfl,trivial⟩ rfl
  .refine sk (dG (Z:=Z) (α:=σ) (λz4 x3=>[]) (λz4 x3=>[.obj u 137 (.eq (.func (.yield l) #[] #[])),.obj j 3 (I a3),.obj c 136 (.eq (.func (.func 107) #[] #[(Pv u),(Pv j),(Pv c)]))]++E z4 x3) (λe=>e=r) h (λe h=>Option.some.inj h) (λK hR h=>?_) (λz4 x3 h=>?_))
   .refine sr (mq ?_);refine aq (nt (ak ?_));refine aM (Z:=Z) (α:=Int×σ) (λz6 y5=>[(0,.eq (.int .u8 a0)),(3,Pt j),(4,Pt c),(8,I y5.1)]) (λz6 y5=>[.obj j 3 (I a3),.obj c 136 (.eq (.func (.func 107) #[] #[(Pv u),(Pv j),(Pv c)])),.obj u 137 (.eq (.func (.yield l) #[] #[]))]++E z6 y5.2) (dk k a0 a3 (dw k Y a3 m0)) k z2 (a1,r1.1) (λ_=>rfl) h (kJ [.obj u 137 (.eq (.func (.yield l) #[] #[])),.obj j 3 (I a3),.obj c 136 (.eq (.func (.func 107) #[] #[(Pv u),(Pv j),(Pv c)]))] (E z2 r1.1) [1,2,0] ⟨rfl,rfl,rfl,rfl,trivial⟩ rfl) (λn z6 y5 h=>?_);unfold dk at h;refine aj (sr (mq ?_));refine lo cJ ?_;refine jb (bO rfl) ?_;refine nt (ci h (λh=>?_) (λh=>?_))
    .refine sk (aj (ak (aj (cG ?_))));refine ea 1 (an rfl Gq jj rfl) ?_;refine dm ?_;refine dm ?_;obtain⟨r7,Q,h⟩:=aa h;refine db (ay [.tmp 20,.tmp 21] rfl rfl OG rfl (j9 k a0 y5.1 r7 Q)) ?_;refine dm ?_;obtain⟨x8,J,h⟩:=aa h;refine db (bH rfl J) ?_;refine df dZ ?_;obtain⟨r9,O,h⟩:=aa h;refine fr 1 ?_;refine fr 1 ?_;refine fr 2 ?_;refine AB rfl rfl rfl (qL (fs:=[]) (cs:=[(Pv u),(Pv j),(Pv c)]) (ags:=[.eq (.int .u8 r7),I x8]) [.tmp 22,.tmp 24] rfl rfl Nc rfl (ih r7 x8 z6 y5.2 r9 O)) ⟨rfl,rfl,rfl,trivial⟩ λx=>?_;refine ja (ig rfl) ?_;refine nt (cw h (λh=>?_) (λh=>?_))
     .refine sr (cq (nt (aE (br (bL (bz ?_))))));obtain rfl:=hR _ h;exact tY x [_] ⟨rfl,trivial⟩ rfl
     .refine bi (aS (tn (ae (mq ?_))));obtain⟨F,y,h⟩:=aa h;refine jb (bH rfl y) ?_;refine aq (nl ?_);exact vn (x,(F,r9.2)) h (kJ [.obj u 137 (.eq (.func (.yield l) #[] #[])),.obj j 3 (I a3),.obj c 136 (.eq (.func (.func 107) #[] #[(Pv u),(Pv j),(Pv c)]))] (E x r9.2) [1,2,0] ⟨rfl,rfl,rfl,rfl,trivial⟩ rfl)
    .refine xa ?_;exact vn (z6,y5.2) h (kJ [.obj j 3 (I a3),.obj c 136 (.eq (.func (.func 107) #[] #[(Pv u),(Pv j),(Pv c)])),.obj u 137 (.eq (.func (.yield l) #[] #[]))] (E z6 y5.2) [2,0,1] trivial rfl)
   .refine sr (cq (nt (aE ?_)));cases h;exact tY z4 [_] ⟨rfl,trivial⟩ rfl
def jK{σ:Type}(k:Nat)(Y:σ->Int->Option (σ×Bool))(a1:Int)(s0:σ):Option (σ):=
 (dw k Y a1 k 0 0 s0).bind λr3=>
 some r3.2
theorem om{M:Md Tryz.prog}{σ Z:Type}(E:Z->σ->List D)(l:Nat)(Y:σ->Int->Option (σ×Bool))(k:Nat)(a1:Int)(c:Nat)(hY:∀z s p r,Y s p=some r->YT M l [.eq (.int .u8 p)] (E z s) (λz':Z=>(.eq (.bool r.2),E z' r.1))):
 ∀(z0:Z) (s0:σ) (r:σ),jK k Y a1 s0=some r->bX M 106 [.eq (.func (.yield l) #[] #[]),Pt c] ([.obj c 3 (I a1)]++E z0 s0) (λz:Z=>(bJ [],[.obj c 3 (I a1)]++E z r)):=by
 intro z0 s0 r h
 unfold jK at h
 replace h:=bb h
 refine bX.of 7 Tryz.func106 rfl Tryz.ntmps106 rfl λS w0=>?_
 refine sr ?_
 refine bx λb1=>?_
 refine nt ?_
 refine sr ?_
 refine aQ rfl rfl rfl (aX rfl PP Rb) trivial λb2=>?_
 refine nt ?_
 refine sr ?_
 refine jc (rN [] [.tmp 2,.tmp 1,.tmp 3] [] [(Pv b1),(Pv c),(Pv b2)] rfl rfl rfl) ?_
 refine aF rfl rfl (aC rfl Gq rfl rfl rfl) ⟨rfl,rfl,trivial⟩ ?_
 refine nt ?_
 refine ae ?_
 refine lo Gq ?_
 obtain⟨r3,e,h⟩:=aa h
 have j:=rX E l Y k b1 a1 c b2 hY k 0 0 z0 s0 r3 e
 refine fr 2 ?_
 refine fr 2 ?_
 refine AB rfl rfl rfl (qL (fs:=[]) (cs:=[(Pv b1),(Pv c),(Pv b2)]) (ags:=[.eq (.int .u8 0),I 0]) [.const (.int .u8 (0)),.const (.int .i64 (0))] rfl rfl Nc rfl j) ⟨rfl,rfl,rfl,trivial⟩ λz4=>?_
 refine aI ?_
 refine jW ?_
 refine bo (kJ (Γ':=[]) [.obj b1 137 (.eq (.func (.yield l) #[] #[])),.obj c 3 (I a1),.obj b2 136 (.eq (.func (.func 107) #[] #[(Pv b1),(Pv c),(Pv b2)]))] (E z4 r3.2) [1] trivial rfl) ?_
 cases h
 exact tY z4 [] trivial rfl
theorem qT(a0:Int):du Tryz.prog 73 [I a0] [] (λz:Nat=>(bJ [.eq (.func (.func 106) #[] #[(Pv z)])],[.obj z 3 (I a0)])):=by
 refine du.of 4 Tryz.func73 rfl Tryz.ntmps73 rfl λS w0=>?_;refine sr (bx λz=>?_);refine cq (nt (sr ?_));refine ja (rN [] [.tmp 1] [] [(Pv z)] rfl rfl rfl) ?_;refine aq (nt (aE ?_));exact aL z [_] 1 ⟨rfl,trivial⟩ rfl
def dB(k:Nat)(a0:Int):Nat->((List Int)×Int)->Option (List Int)
 |0,_=>none
 |n+1,y3=>
  if y3.2 < 5 then((((eV k a0 y3.2).bind λr7=>
  if r7=true then((cH (bM (length y3.1+length [y3.2]))).bind λ_=>
  some (y3.1++[y3.2])) else(some y3.1)):Option ((List Int))).bind λx5=>
  (ck (y3.2+1)).bind λc=>
  dB k a0 n (x5,c)) else(some y3.1)
def f5(k:Nat)(a0:Int):Option (List Int):=
 ((dB k a0 k (([]:(List Int)),0)):Option ((List Int))).bind λx1=>
 some x1
theorem kg(k:Nat)(a0:Int)(r:(List Int))(h:f5 k a0=some r):
 du Tryz.prog 39 [.eq (.int .u8 a0)] [] (λ_:Unit=>(bJ [.rep Tl r],[])):=by
 unfold f5 at h
 replace h:=bb h
 refine du.of 17 Tryz.func39 rfl Tryz.ntmps39 rfl λS w0=>?_
 refine sr ?_
 refine cq ?_
 refine nt ?_
 refine sr ?_
 refine cq ?_
 refine nt ?_
 refine aN (Z:=Value) (α:=(List Int)) (λz2 x1=>[(3,.eq z2)]) (λz2 x1=>[.sl z2 3 Ti x1]) h (λK h=>?_) (λz2 x1 h=>?_)
 .
  refine sr (fq rfl ?_);refine nt (ak (iJ (SE.nil 3 Ti) ?_));refine aM (λz4 y3=>[(0,.eq (.int .u8 a0)),(3,.eq z4),(5,I y3.2)]) (λz4 y3=>[.sl z4 3 Ti y3.1]) (dB k a0) k (.slice none 0 0) (([]:(List Int)),0) (λ_=>rfl) h (SE.fin [0] ⟨rfl,rfl,rfl,trivial⟩ rfl) (λn z4 y3 h=>?_);unfold dB at h;refine sr (jb (bO rfl) ?_);refine nt (aj (ci h (λh=>?_) (λh=>?_)))
  .refine sk (aN (Z:=Value) (α:=(List Int)) (λz6 x5=>[(0,.eq (.int .u8 a0)),(3,.eq z6),(5,I y3.2)]) (λz6 x5=>[.sl z6 3 Ti x5]) h (λK h=>?_) (λz6 x5 h=>?_))
   .refine ak (sr (mq ?_));refine aq (nt (sr ?_));iterate 2 refine mq ?_
    obtain⟨r7,l,h⟩:=aa h;refine jb (ay [.tmp 8,.tmp 9] rfl rfl Ih rfl (gJ k a0 y3.2 r7 l)) ?_;refine nt (cv h (λh=>?_) (λh=>?_))
    .refine ae ?_;iterate 2 refine mq ?_
     refine ja (bf (t:=Ti) [(.tmp 12,_)] [y3.2] rfl rfl ec (.cons rfl .int .nil) rfl rfl) ?_;obtain⟨u8,j,h⟩:=aa h;refine eh rfl rfl rfl (cx rfl rfl ec (ao j)) ⟨rfl,rfl,trivial⟩ λv9=>?_;refine aq (aI (bn ?_));exact jz (v9,y3.1++[y3.2]) h [0]
    .refine bi (bn ?_);exact jz (z4,y3.1) h [0]
   .refine ae ?_;obtain⟨e,c,h⟩:=aa h;refine jb (bH rfl c) ?_;refine mq (nl ?_);exact jz (z6,(x5,e)) h [0]
  .refine xa ?_;exact jz (z4,y3.1) h [0]
 .
  refine sr (mq ?_);refine aq (nt (aE ?_));refine bo (ju [2,3,16] ⟨rfl,rfl,rfl,trivial⟩) ?_;cases h;exact ra
def ie(k:Nat)(a0:List Int):Option (List Int):=
 (cH (bM (length a0))).bind λ_=>some a0
theorem rG(k:Nat)(a0:List Int)(r:List Int)(h:ie k a0=some r):
 du Tryz.prog 41 [.rep Tl a0] [] (λz:Value=>(bJ [.eq z],[.sl z 3 Ti r])):=by
 unfold ie at h
 replace h:=bb h
 refine du.of 8 Tryz.func41 rfl Tryz.ntmps41 rfl λS w0=>?_
 obtain⟨u1,c,h⟩:=aa h
 cases h
 refine sr ?_
 refine cq ?_
 refine nt ?_
 refine aj ?_
 refine sr ?_
 refine mq ?_
 refine aK (Δ:=[]) (F:=_) (λ_ _ _=>ag rfl _) rfl rfl (Kt rfl jr) ⟨rfl,rfl,trivial⟩ λb=>?_
 refine nt ?_
 refine jd rfl (λhb=>?_) (λhb=>?_)
 .
  refine sr (cq (nt (rx ?_)));obtain rfl:=b.2 hb;refine bo (SE.nil 3 Ti) ?_;exact aL (.slice none 0 0) [.eq (.slice none 0 0)] 1 ⟨rfl,trivial⟩ rfl
 .
  refine sk (sr (aQ rfl rfl rfl (lg (t:=Ti) [] [] rfl rfl ec .nil rfl rfl) trivial λv1=>?_));refine mq ?_;refine eh rfl rfl rfl (cx rfl rfl ec (by simpa using ao c)) ⟨rfl,rfl,trivial⟩ λv2=>?_;refine aq (nt (aE ?_));exact aL v2 [.eq v2] 1 ⟨rfl,trivial⟩ rfl
def fe(k:Nat)(a0:ab)(a1:(List (List Int))):Nat->Int->Option (Except Bool Unit)
 |0,_=>none
 |n+1,y5=>
  if y5 < (a1.length:Int) then((aV a1 y5).bind λx7=>
  if¬((x7.length:Int)=a0.1) then(some (.error false)) else((ck (y5+1)).bind λx8=>
  fe k a0 a1 n x8)) else(some (.ok ()))
def mJ(k:Nat)(a0:ab)(a1:(List (List Int))):Option Bool:=
 (ck ((a0.2.2.2.2.1.length:Int)+1)).bind λx2=>
 if¬((a1.length:Int)=x2) then(some false) else(bE (α:=Unit) (fe k a0 a1 k 0) (some) λ_=>
 some true)
theorem xX(k:Nat)(a0:ab)(a1:(List (List Int)))(r:Bool)(h:mJ k a0 a1=some r):
 du Tryz.prog 13 [.rep am a0,.rep (.slice Tl) a1] [] (λ_:Unit=>(bJ [.eq (.bool r)],[])):=by
 unfold mJ at h
 replace h:=bb h
 refine du.of 27 Tryz.func13 rfl Tryz.ntmps13 rfl λS w0=>?_
 refine sr ?_
 refine bx λb1=>?_
 refine cq ?_
 refine nt ?_
 refine aj ?_
 refine sr ?_
 refine mq ?_
 refine ol qs ?_
 refine fl cU ?_
 refine lo ic ?_
 refine ol tX ?_
 obtain⟨x2,l,h⟩:=aa h
 refine jb (bH rfl l) ?_
 refine jb (dW rfl) ?_
 refine nt ?_
 refine cn h (λh=>?_) (λh=>?_)
 .
  refine sr (cq (nt (rx ?_)));cases h;exact ra
 .
  refine sk (dG (Z:=Unit) (α:=Unit) (λz4 x3=>[]) (λz4 x3=>[]) (λe=>e=r) h (λe h=>Option.some.inj h) (λK hR h=>?_) (λz4 x3 h=>?_))
  .refine sr (cq (nt (ak ?_)));refine aM (λz6 y5=>[(1,.rep (.slice Tl) a1),(2,Pt b1),(5,I y5)]) (λz6 y5=>[.obj b1 26 (.rep am a0)]) (fe k a0 a1) k () 0 (λ_=>rfl) h (SE.fin [0] ⟨rfl,rfl,rfl,trivial⟩ rfl) (λn z6 y5 h=>?_);unfold fe at h;refine aj (sr ?_);iterate 2 refine mq ?_
   refine ol qs ?_;refine jb (bO rfl) ?_;refine nt (ci h (λh=>?_) (λh=>?_))
   .refine sk (aj (ak (aj (cG ?_))));refine dm ?_;refine dm ?_;obtain⟨x7,j,h⟩:=aa h;refine db (ba (t:=Tl) rfl qs iN j) ?_;refine da (aA (t:=Tl) rfl iN rfl) ?_;refine da (jg rfl rfl jr) ?_;refine da (ap rfl fG) ?_;refine ea 0 (an rfl cJ jj rfl) ?_;refine df dZ ?_;refine jb (dW rfl) ?_;refine nt (cn h (λh=>?_) (λh=>?_))
    .refine sr (cq (nt (aE (br (bL (bz ?_))))));obtain rfl:=hR _ h;exact ra
    .refine bi (aS (tn (ae (mq ?_))));obtain⟨x8,c,h⟩:=aa h;refine jb (bH rfl c) ?_;refine aq (nl ?_);exact jz ((),x8) h [0]
   .refine xa ?_;exact jz ((),()) h []
  .refine sr (cq (nt (aE ?_)));cases h;exact ra
def iO(k:Nat)(a0:(List Int)):Nat->(Int×Int)->Option Int
 |0,_=>none
 |n+1,y4=>
  if y4.2 < (a0.length:Int) then((aV a0 y4.2).bind λx6=>
  (ck (y4.2+1)).bind λx7=>
  iO k a0 n (HW y4.1 x6,x7)) else(some y4.1)
def lO(k:Nat)(a0:(List Int)):Option Int:=
 if(a0.length:Int) < 1 then(none) else((aV a0 0).bind λx1=>
 ((iO k a0 k (x1,1)):Option (Int)).bind λx2=>
 some x2)
theorem nS(k:Nat)(a0:(List Int))(r:Int)(h:lO k a0=some r):
 du Tryz.prog 45 [.rep Tl a0] [] (λ_:Unit=>(bJ [I r],[])):=by
 unfold lO at h
 replace h:=bb h
 refine du.of 25 Tryz.func45 rfl Tryz.ntmps45 rfl λS w0=>?_
 refine sr ?_
 refine cq ?_
 refine nt ?_
 refine aj ?_
 refine sr ?_
 refine mq ?_
 refine ol jr ?_
 refine jb (bO rfl) ?_
 refine nt ?_
 refine ci h (λh=>?_) (λh=>?_)
 .
  cases h
 .
  refine sk (sr (mq ?_));obtain⟨x1,j,h⟩:=aa h;refine jb (ba (t:=Ti) rfl jr cJ j) ?_;refine ja (aA (t:=Ti) rfl cJ rfl) ?_;refine aq (nt ?_);refine aN (Z:=Unit) (α:=Int) (λz3 x2=>[(3,I x2)]) (λz3 x2=>[]) h (λK h=>?_) (λz3 x2 h=>?_)
  .refine sr (cq (nt (ak ?_)));refine aM (λz5 y4=>[(0,.rep Tl a0),(3,I y4.1),(4,I y4.2)]) (λz5 y4=>[]) (iO k a0) k () (x1,1) (λ_=>rfl) h (SE.fin [] ⟨rfl,rfl,rfl,trivial⟩ rfl) (λn z5 y4 h=>?_);unfold iO at h;refine aj (sr ?_);iterate 2 refine mq ?_
   refine ol jr ?_;refine jb (bO rfl) ?_;refine nt (ci h (λh=>?_) (λh=>?_))
   .refine sk (aj (ak (ae ?_)));iterate 3 refine mq ?_
    obtain⟨x6,e,h⟩:=aa h;refine jb (ba (t:=Ti) rfl jr cJ e) ?_;refine ja (aA (t:=Ti) rfl cJ rfl) ?_;refine jb (Qb rfl rfl) ?_;refine aq (aI (aS (tn (ae ?_))));refine mq ?_;obtain⟨x7,c,h⟩:=aa h;refine jb (bH rfl c) ?_;refine aq (nl ?_);exact jz ((),(HW y4.1 x6,x7)) h []
   .refine xa ?_;exact jz ((),y4.1) h []
  .refine sr (mq ?_);refine aq (nt (aE ?_));cases h;exact ra
def iP(k:Nat)(a0:(List Int)):Nat->(Int×Int)->Option Int
 |0,_=>none
 |n+1,y4=>
  if y4.2 < (a0.length:Int) then((aV a0 y4.2).bind λx6=>
  (ck (y4.2+1)).bind λx7=>
  iP k a0 n (sq y4.1 x6,x7)) else(some y4.1)
def nT(k:Nat)(a0:(List Int)):Option Int:=
 if(a0.length:Int) < 1 then(none) else((aV a0 0).bind λx1=>
 ((iP k a0 k (x1,1)):Option (Int)).bind λx2=>
 some x2)
theorem ud(k:Nat)(a0:(List Int))(r:Int)(h:nT k a0=some r):
 du Tryz.prog 46 [.rep Tl a0] [] (λ_:Unit=>(bJ [I r],[])):=by
 unfold nT at h
 replace h:=bb h
 refine du.of 25 Tryz.func46 rfl Tryz.ntmps46 rfl λS w0=>?_
 refine sr ?_
 refine cq ?_
 refine nt ?_
 refine aj ?_
 refine sr ?_
 refine mq ?_
 refine ol jr ?_
 refine jb (bO rfl) ?_
 refine nt ?_
 refine ci h (λh=>?_) (λh=>?_)
 .
  cases h
 .
  refine sk (sr (mq ?_));obtain⟨x1,j,h⟩:=aa h;refine jb (ba (t:=Ti) rfl jr cJ j) ?_;refine ja (aA (t:=Ti) rfl cJ rfl) ?_;refine aq (nt ?_);refine aN (Z:=Unit) (α:=Int) (λz3 x2=>[(3,I x2)]) (λz3 x2=>[]) h (λK h=>?_) (λz3 x2 h=>?_)
  .refine sr (cq (nt (ak ?_)));refine aM (λz5 y4=>[(0,.rep Tl a0),(3,I y4.1),(4,I y4.2)]) (λz5 y4=>[]) (iP k a0) k () (x1,1) (λ_=>rfl) h (SE.fin [] ⟨rfl,rfl,rfl,trivial⟩ rfl) (λn z5 y4 h=>?_);unfold iP at h;refine aj (sr ?_);iterate 2 refine mq ?_
   refine ol jr ?_;refine jb (bO rfl) ?_;refine nt (ci h (λh=>?_) (λh=>?_))
   .refine sk (aj (ak (ae ?_)));iterate 3 refine mq ?_
    obtain⟨x6,e,h⟩:=aa h;refine jb (ba (t:=Ti) rfl jr cJ e) ?_;refine ja (aA (t:=Ti) rfl cJ rfl) ?_;refine jb (G7 rfl rfl) ?_;refine aq (aI (aS (tn (ae ?_))));refine mq ?_;obtain⟨x7,c,h⟩:=aa h;refine jb (bH rfl c) ?_;refine aq (nl ?_);exact jz ((),(sq y4.1 x6,x7)) h []
   .refine xa ?_;exact jz ((),y4.1) h []
  .refine sr (mq ?_);refine aq (nt (aE ?_));cases h;exact ra
def dE(k:Nat)(a0:(List Int))(a1:(List Int)):Nat->Int->Option (Except Bool Unit)
 |0,_=>none
 |n+1,y3=>
  if y3 < (a0.length:Int) then((aV a0 y3).bind λx5=>
  (aV a1 y3).bind λx6=>
  if¬(x5=x6) then(some (.error false)) else((ck (y3+1)).bind λx7=>
  dE k a0 a1 n x7)) else(some (.ok ()))
def fg(k:Nat)(a0:(List Int))(a1:(List Int)):Option Bool:=
 if¬((a0.length:Int)=(a1.length:Int)) then(some false) else(bE (α:=Unit) (dE k a0 a1 k 0) (some) λ_=>
 some true)
theorem iy(k:Nat)(a0:(List Int))(a1:(List Int))(r:Bool)(h:fg k a0 a1=some r):
 du Tryz.prog 32 [.rep Tl a0,.rep Tl a1] [] (λ_:Unit=>(bJ [.eq (.bool r)],[])):=by
 unfold fg at h
 replace h:=bb h
 refine du.of 26 Tryz.func32 rfl Tryz.ntmps32 rfl λS w0=>?_
 refine sr ?_
 refine cq ?_
 refine nt ?_
 refine aj ?_
 refine sr ?_
 refine mq ?_
 refine ol jr ?_
 refine mq ?_
 refine ol jr ?_
 refine jb (dW rfl) ?_
 refine nt ?_
 refine cn h (λh=>?_) (λh=>?_)
 .
  refine sr (cq (nt (rx ?_)));cases h;exact ra
 .
  refine sk (dG (Z:=Unit) (α:=Unit) (λz2 x1=>[]) (λz2 x1=>[]) (λe=>e=r) h (λe h=>Option.some.inj h) (λK hR h=>?_) (λz2 x1 h=>?_))
  .refine sr (cq (nt (ak ?_)));refine aM (λz4 y3=>[(0,.rep Tl a0),(1,.rep Tl a1),(5,I y3)]) (λz4 y3=>[]) (dE k a0 a1) k () 0 (λ_=>rfl) h (SE.fin [] ⟨rfl,rfl,rfl,trivial⟩ rfl) (λn z4 y3 h=>?_);unfold dE at h;refine aj (sr ?_);iterate 2 refine mq ?_
   refine ol jr ?_;refine jb (bO rfl) ?_;refine nt (ci h (λh=>?_) (λh=>?_))
   .refine sk (aj (ak (aj (cG ?_))));refine dm ?_;refine dm ?_;obtain⟨x5,l,h⟩:=aa h;refine db (ba (t:=Ti) rfl jr cJ l) ?_;refine da (aA (t:=Ti) rfl cJ rfl) ?_;refine dm ?_;refine dm ?_;obtain⟨x6,j,h⟩:=aa h;refine db (ba (t:=Ti) rfl jr cJ j) ?_;refine da (aA (t:=Ti) rfl cJ rfl) ?_;refine df dZ ?_;refine jb (dW rfl) ?_;refine nt (cn h (λh=>?_) (λh=>?_))
    .refine sr (cq (nt (aE (br (bL (bz ?_))))));obtain rfl:=hR _ h;exact ra
    .refine bi (aS (tn (ae (mq ?_))));obtain⟨x7,c,h⟩:=aa h;refine jb (bH rfl c) ?_;refine aq (nl ?_);exact jz ((),x7) h []
   .refine xa ?_;exact jz ((),()) h []
  .refine sr (cq (nt (aE ?_)));cases h;exact ra
def lw(k:Nat)(a0:Int)(a1:Int)(a2:Bool):Option aG:=
 some (a0,a1,a2)
theorem ma(k:Nat)(a0:Int)(a1:Int)(a2:Bool)(r:aG)(h:lw k a0 a1 a2=some r):
 du Tryz.prog 27 [I a0,I a1,.eq (.bool a2)] [] (λ_:Unit=>(bJ [.rep aH r],[])):=by
 unfold lw at h
 replace h:=bb h
 refine du.of 11 Tryz.func27 rfl Tryz.ntmps27 rfl λS w0=>?_
 refine sr ?_
 refine aQ rfl rfl rfl (aX rfl vB Ce) trivial λb1=>?_
 refine nt ?_
 refine sr ?_
 iterate 3 refine mq ?_
 refine jc (cR [(0,.tmp 7,_),(1,.tmp 8,_),(2,.tmp 9,_)] rfl Oe vB IB (gA ⟨rfl,rfl,rfl,trivial⟩) rfl) ?_
 refine aF rfl rfl (aC rfl jE trivial rfl rfl) ⟨rfl,rfl,trivial⟩ ?_
 refine nt ?_
 refine aE ?_
 refine bo (dT (a:=.agg (.pair (I a0) (.pair (I a1) (.eq (.bool a2))))) (a':=.rep aH (a0,a1,a2)) (fp (.agg (.pair .int (.pair .int .bool))))) ?_
 cases h
 exact aL () [.rep aH (a0,a1,a2)] 0 ⟨⟨_,_,_,_,_,rfl,(.head _),jE,(nK),rfl⟩,trivial⟩ rfl
def iI(k:Nat)(a0:(List aG)):Option ab:=
 (lw k 1 2 true).bind λr2=>
 (lw k 2 1 false).bind λr3=>
 (lw k 3 3 false).bind λr4=>
 (cH (bM (length [r2,r3,r4]+length a0))).bind λ_=>
 some (4,1,1,2,[[[0,1,2],[3]],[[0,1],[2,3]],[[1,2,3]],[[1,3],[2]]],[r2,r3,r4]++a0)
theorem gZ(k:Nat)(a0:(List aG))(r:ab)(h:iI k a0=some r):
 du Tryz.prog 47 [Rs aH a0] [] (λ_:Unit=>(bJ [.rep am r],[])):=by
 unfold iI at h
 replace h:=bb h
 refine du.of 24 Tryz.func47 rfl Tryz.ntmps47 rfl λS w0=>?_
 refine sr ?_
 refine aQ rfl rfl rfl (aX rfl mV tC) trivial λb1=>?_
 refine nt ?_
 refine sr ?_
 obtain⟨r2,l,h⟩:=aa h
 have u:=ma k 1 2 true r2 l
 refine jc (ay [.const (.int .i64 (1)),.const (.int .i64 (2)),.const (.bool true)] rfl rfl OK rfl u) ?_
 obtain⟨r3,j,h⟩:=aa h
 have s:=ma k 2 1 false r3 j
 refine jc (ay [.const (.int .i64 (2)),.const (.int .i64 (1)),.const (.bool false)] rfl rfl OK rfl s) ?_
 obtain⟨r4,e,h⟩:=aa h
 have n:=ma k 3 3 false r4 e
 refine jc (ay [.const (.int .i64 (3)),.const (.int .i64 (3)),.const (.bool false)] rfl rfl OK rfl n) ?_
 refine aQ rfl rfl rfl (lg (t:=aH) [(.tmp 4,_),(.tmp 5,_),(.tmp 6,_)] [r2,r3,r4] rfl rfl vG (.cons rfl .rep (.cons rfl .rep (.cons rfl .rep .nil))) rfl rfl) ⟨rfl,rfl,rfl,trivial⟩ λv5=>?_
 refine aq ?_
 refine nt ?_
 refine sr ?_
 refine jc (bf (t:=Ti) [(.const (.int .i64 (0)),_),(.const (.int .i64 (1)),_),(.const (.int .i64 (2)),_)] [0,1,2] rfl rfl ec (.cons rfl .int (.cons rfl .int (.cons rfl .int .nil))) rfl rfl) ?_
 refine ja (bf (t:=Ti) [(.const (.int .i64 (3)),_)] [3] rfl rfl ec (.cons rfl .int .nil) rfl rfl) ?_
 refine jb (bf (t:=Tl) [(.tmp 8,_),(.tmp 9,_)] [[0,1,2],[3]] rfl rfl pw (.cons rfl .rep (.cons rfl .rep .nil)) rfl rfl) ?_
 refine jb (bf (t:=Ti) [(.const (.int .i64 (0)),_),(.const (.int .i64 (1)),_)] [0,1] rfl rfl ec (.cons rfl .int (.cons rfl .int .nil)) rfl rfl) ?_
 refine jb (bf (t:=Ti) [(.const (.int .i64 (2)),_),(.const (.int .i64 (3)),_)] [2,3] rfl rfl ec (.cons rfl .int (.cons rfl .int .nil)) rfl rfl) ?_
 refine jb (bf (t:=Tl) [(.tmp 11,_),(.tmp 12,_)] [[0,1],[2,3]] rfl rfl pw (.cons rfl .rep (.cons rfl .rep .nil)) rfl rfl) ?_
 refine jc (bf (t:=Ti) [(.const (.int .i64 (1)),_),(.const (.int .i64 (2)),_),(.const (.int .i64 (3)),_)] [1,2,3] rfl rfl ec (.cons rfl .int (.cons rfl .int (.cons rfl .int .nil))) rfl rfl) ?_
 refine ja (bf (t:=Tl) [(.tmp 14,_)] [[1,2,3]] rfl rfl pw (.cons rfl .rep .nil) rfl rfl) ?_
 refine jb (bf (t:=Ti) [(.const (.int .i64 (1)),_),(.const (.int .i64 (3)),_)] [1,3] rfl rfl ec (.cons rfl .int (.cons rfl .int .nil)) rfl rfl) ?_
 refine ja (bf (t:=Ti) [(.const (.int .i64 (2)),_)] [2] rfl rfl ec (.cons rfl .int .nil) rfl rfl) ?_
 refine jb (bf (t:=Tl) [(.tmp 16,_),(.tmp 17,_)] [[1,3],[2]] rfl rfl pw (.cons rfl .rep (.cons rfl .rep .nil)) rfl rfl) ?_
 refine bZ rfl (bf (t:=(.slice Tl)) [(.tmp 10,_),(.tmp 13,_),(.tmp 15,_),(.tmp 18,_)] [[[0,1,2],[3]],[[0,1],[2,3]],[[1,2,3]],[[1,3],[2]]] rfl rfl xt (.cons rfl .rep (.cons rfl .rep (.cons rfl .rep (.cons rfl .rep .nil)))) rfl rfl) ⟨rfl,rfl,rfl,rfl,trivial⟩ ?_
 iterate 2 refine mq ?_
 obtain⟨u6,c,h⟩:=aa h
 refine eh rfl rfl rfl (cx rfl rfl vG (ao c)) ⟨rfl,rfl,trivial⟩ λv7=>?_
 refine eJ (ju [22] ⟨rfl,trivial⟩) ?_
 refine bZ rfl (cR [(0,.const (.int .i64 (4)),_),(1,.const (.int .i64 (1)),_),(2,.const (.int .i64 (1)),_),(3,.const (.int .i64 (2)),_),(4,.tmp 19,_),(5,.tmp 22,_)] rfl Bi mV u7 (gA ⟨rfl,rfl,rfl,rfl,rfl,rfl,trivial⟩) rfl) ⟨rfl,rfl,rfl,rfl,rfl,rfl,trivial⟩ ?_
 refine aF rfl rfl (aC rfl cV trivial rfl rfl) ⟨rfl,rfl,trivial⟩ ?_
 refine nt ?_
 refine aE ?_
 refine bo (dT (a:=.agg (.pair (I 4) (.pair (I 1) (.pair (I 1) (.pair (I 2) (.pair (.rep (.slice (.slice Tl)) [[[0,1,2],[3]],[[0,1],[2,3]],[[1,2,3]],[[1,3],[2]]]) (Rs aH ([r2,r3,r4]++a0)))))))) (a':=.rep am (4,1,1,2,[[[0,1,2],[3]],[[0,1],[2,3]],[[1,2,3]],[[1,3],[2]]],[r2,r3,r4]++a0)) (fp (.agg (.pair .int (.pair .int (.pair .int (.pair .int (.pair .rep .rep)))))))) ?_
 cases h
 exact aL () [.rep am (4,1,1,2,[[[0,1,2],[3]],[[0,1],[2,3]],[[1,2,3]],[[1,3],[2]]],[r2,r3,r4]++a0)] 0 ⟨⟨_,_,_,_,_,rfl,(.head _),cV,(nK),rfl⟩,trivial⟩ rfl
def fV(k:Nat):Nat->((List Int)×Int×Int)->Option (List Int)
 |0,_=>none
 |n+1,y2=>
  if y2.2.1 < y2.2.2 then((aV y2.1 y2.2.2).bind λx4=>
  (aV y2.1 y2.2.1).bind λx5=>
  (aV y2.1 y2.2.1).bind λx6=>
  (aV (List.set y2.1 (Int.toNat y2.2.1) x4) y2.2.2).bind λx7=>
  (ck (y2.2.1+1)).bind λx8=>
  (ck (y2.2.2 - 1)).bind λx9=>
  fV k n (List.set (List.set y2.1 (Int.toNat y2.2.1) x4) (Int.toNat y2.2.2) x5,x8,x9)) else(some y2.1)
def jY(k:Nat)(a0:(List Int)):Option (List Int):=
 (ck ((a0.length:Int) - 1)).bind λx1=>
 fV k k (a0,0,x1)
theorem pP(k:Nat)(a0:(List Int))(c:Value)(r:(List Int))(h:jY k a0=some r):
 du Tryz.prog 81 [.eq c] [.sl c 3 Ti a0] (λ_:Unit=>(bJ [],[.sl c 3 Ti r])):=by
 unfold jY at h
 replace h:=bb h
 refine du.of 28 Tryz.func81 rfl Tryz.ntmps81 rfl λS w0=>?_
 refine sr ?_
 refine mq ?_
 refine ka (mA rfl rfl jr) ?_
 obtain⟨x1,mc,h⟩:=aa h
 refine jb (eE rfl mc) ?_
 refine cq ?_
 refine aq ?_
 refine nt ?_
 refine ak ?_
 refine aM (λz3 y2=>[(0,.eq c),(2,I y2.2.1),(3,I y2.2.2)]) (λz3 y2=>[.sl c 3 Ti y2.1]) (fV k) k () (a0,0,x1) (λ_=>rfl) h (SE.fin [0] ⟨rfl,rfl,rfl,trivial⟩ rfl) (λn z3 y2 h=>?_)
 unfold fV at h
 refine aj ?_
 refine sr ?_
 iterate 2 refine mq ?_
 refine jb (bO rfl) ?_
 refine nt ?_
 refine ci h (λh=>?_) (λh=>?_)
 .
  refine sk (aj (ak (rA ?_)));refine bv rfl rfl rfl (bA rfl) ⟨rfl,trivial⟩ ?_;refine bv rfl rfl rfl (bA rfl) ⟨rfl,trivial⟩ ?_;refine bv rfl rfl rfl (bA rfl) ⟨rfl,trivial⟩ ?_;refine bv rfl rfl rfl (bA rfl) ⟨rfl,trivial⟩ ?_;refine bv rfl rfl rfl (bA rfl) ⟨rfl,trivial⟩ ?_;refine bv rfl rfl rfl (bA rfl) ⟨rfl,trivial⟩ ?_;obtain⟨x4,D,h⟩:=aa h;refine gp 0 rfl rfl rfl rfl (cI (t:=Ti) rfl jr cJ D) ⟨rfl,rfl,trivial⟩ ?_;refine gp 0 rfl rfl rfl rfl (gY (i:=Int.toNat y2.2.2) (off:=0) rfl cJ (λ_=>rfl) rfl (dN D).2.2 rfl) ⟨rfl,trivial⟩ ?_;refine bv rfl rfl rfl (bA rfl) ⟨rfl,trivial⟩ ?_;refine bv rfl rfl rfl (bA rfl) ⟨rfl,trivial⟩ ?_;obtain⟨x5,y,h⟩:=aa h;refine gp 0 rfl rfl rfl rfl (cI (t:=Ti) rfl jr cJ y) ⟨rfl,rfl,trivial⟩ ?_;refine gp 0 rfl rfl rfl rfl (gY (i:=Int.toNat y2.2.1) (off:=0) rfl cJ (λ_=>rfl) rfl (dN y).2.2 rfl) ⟨rfl,trivial⟩ ?_;obtain⟨x6,x,h⟩:=aa h;refine gp 0 rfl rfl rfl rfl (cI (t:=Ti) rfl jr cJ x) ⟨rfl,rfl,trivial⟩ ?_;refine sT 13 [true,true,false,false,true,true,true,true,true,true,true,true,true] [27] [] [] rfl (by kernel_rfl) (by kernel_rfl) (by kernel_rfl) dZ (λvs hv hB=>?_);obtain⟨w0,UQ,rfl,Y⟩:=ax hv;obtain⟨w1,UP,rfl,X⟩:=ax Y;obtain⟨w2,UO,rfl,U⟩:=ax X;obtain⟨w3,UN,rfl,Q⟩:=ax U;obtain⟨w4,UM,rfl,O⟩:=ax Q;obtain⟨w5,UL,rfl,M⟩:=ax O;obtain⟨w6,UK,rfl,J⟩:=ax M;obtain⟨w7,UJ,rfl,F⟩:=ax J;obtain⟨w8,UI,rfl,E⟩:=ax F;obtain⟨w9,UE,rfl,s⟩:=ax E;obtain⟨UH,zz,rfl,l⟩:=ax s;obtain⟨UG,qt,rfl,j⟩:=ax l;obtain⟨UF,mw,rfl,e⟩:=ax j;obtain rfl:=oY e;refine⟨[0],[.sl c 3 Ti y2.1],by kernel_rfl,by decide,?_⟩;refine sP rfl rfl (gC (i:=Int.toNat y2.2.1) rfl cJ rfl (np x) rfl .int rfl) ⟨rfl,rfl,trivial⟩ (by kernel_rfl) ?_;obtain⟨x7,u,h⟩:=aa h;refine qw rfl rfl rfl rfl (cI (t:=Ti) rfl jr cJ u) ⟨rfl,rfl,trivial⟩ (by kernel_rfl) ?_;refine sP rfl rfl (gC (i:=Int.toNat y2.2.2) rfl cJ rfl (np u) rfl .int rfl) ⟨rfl,rfl,trivial⟩ (by kernel_rfl) ?_;refine yz ?_;refine bo (SE.fin (Γ':=[(0,.eq c),(2,I y2.2.1),(3,I y2.2.2)]) (Δ':=[.sl c 3 Ti (List.set (List.set y2.1 (Int.toNat y2.2.1) x4) (Int.toNat y2.2.2) x5)]) [0] ⟨rfl,rfl,rfl,trivial⟩ rfl) ?_;refine aS (tn (ae (mq ?_)));obtain⟨x8,gw,h⟩:=aa h;refine jb (bH rfl gw) ?_;refine mq ?_;obtain⟨x9,Z,h⟩:=aa h;refine jb (eE rfl Z) ?_;refine aq ?_;refine aq (nl ?_);exact jz ((),(List.set (List.set y2.1 (Int.toNat y2.2.1) x4) (Int.toNat y2.2.2) x5,x8,x9)) h [0]
 .
  refine hH (cC (cC (dO (jW ?_))));cases h;exact aL () [] 1 trivial rfl
def kA(k:Nat)(a0:Int):Option Int:=
 (f5 k a0).bind λr1=>
 some (r1.length:Int)
theorem nD(k:Nat)(a0:Int)(r:Int)(h:kA k a0=some r):
 du Tryz.prog 88 [.eq (.int .u8 a0)] [] (λ_:Unit=>(bJ [I r],[])):=by
 unfold kA at h
 replace h:=bb h
 refine du.of 6 Tryz.func88 rfl Tryz.ntmps88 rfl λS w0=>?_
 refine sr ?_
 refine cq ?_
 refine nt ?_
 refine sr ?_
 refine mq ?_
 obtain⟨r1,c,h⟩:=aa h
 have e:=kg k a0 r1 c
 refine ja (ay [.tmp 3] rfl rfl OJ rfl e) ?_
 refine ol jr ?_
 refine aq ?_
 refine nt ?_
 refine aE ?_
 cases h
 exact ra
def nk(k:Nat)(a0:Int)(a1:Int):Option Int:=
 (kA k a0).bind λr1=>
 (kA k a1).bind λr2=>
 (ck (r1 - r2)).bind λx3=>
 some x3
theorem tg(k:Nat)(a0:Int)(a1:Int)(c:Nat)(r:Int)(h:nk k a0 a1=some r):
 du Tryz.prog 116 [.eq (.int .u8 a0),.eq (.int .u8 a1),Pt c] [.obj c 140 (.eq (.func (.func 88) #[] #[]))] (λ_:Unit=>(bJ [I r],[.obj c 140 (.eq (.func (.func 88) #[] #[]))])):=by
 unfold nk at h
 replace h:=bb h
 refine du.of 13 Tryz.func116 rfl Tryz.ntmps116 rfl λS w0=>?_
 refine sr ?_
 refine cq ?_
 refine nt ?_
 refine aj ?_
 refine cG ?_
 refine ea 0 (an rfl MY jj rfl) ?_
 refine dm ?_
 obtain⟨r1,l,h⟩:=aa h
 have s:=nD k a0 r1 l
 refine db (tN (fs:=[]) (cs:=[]) (ags:=[.eq (.int .u8 a0)]) [.tmp 7] rfl rfl QH rfl s) ?_
 refine ea 0 (an rfl MY jj rfl) ?_
 refine dm ?_
 refine df dZ ?_
 obtain⟨r2,j,h⟩:=aa h
 have n:=nD k a1 r2 j
 refine jb (tN (fs:=[]) (cs:=[]) (ags:=[.eq (.int .u8 a1)]) [.tmp 10] rfl rfl QH rfl n) ?_
 obtain⟨x3,e,h⟩:=aa h
 refine jb (eE rfl e) ?_
 refine aq ?_
 refine nt ?_
 refine aE ?_
 cases h
 exact aL () [_] 1 ⟨rfl,trivial⟩ rfl
def fW(k:Nat)(a0:(List Int)):Nat->(Int×Int)->Option Int
 |0,_=>none
 |n+1,y4=>
  if y4.2 < (a0.length:Int) then((((aV a0 y4.2).bind λx8=>
  (nk k x8 y4.1).bind λr9=>
  if r9 < 0 then((aV a0 y4.2).bind λe=>
  some e) else(some y4.1)):Option (Int)).bind λx6=>
  (ck (y4.2+1)).bind λc=>
  fW k a0 n (x6,c)) else(some y4.1)
def jZ(k:Nat)(a0:(List Int)):Option Int:=
 if(a0.length:Int) < 1 then(none) else((aV a0 0).bind λx1=>
 ((fW k a0 k (x1,1)):Option (Int)).bind λx2=>
 some x2)
theorem pQ(k:Nat)(a0:(List Int))(c_a1_0:Nat)(r:Int)(h:jZ k a0=some r):
 du Tryz.prog 115 [.rep (.slice (.int .u8)) a0,.eq (.func (.func 116) #[] #[(Pv c_a1_0)])] [.obj c_a1_0 140 (.eq (.func (.func 88) #[] #[]))] (λ_:Unit=>(bJ [.eq (.int .u8 r)],[.obj c_a1_0 140 (.eq (.func (.func 88) #[] #[]))])):=by
 unfold jZ at h
 replace h:=bb h
 refine du.of 33 Tryz.func115 rfl Tryz.ntmps115 rfl λS w0=>?_
 refine sr ?_
 refine cq ?_
 refine nt ?_
 refine aj ?_
 refine sr ?_
 refine mq ?_
 refine ol yI ?_
 refine jb (bO rfl) ?_
 refine nt ?_
 refine ci h (λh=>?_) (λh=>?_)
 .
  cases h
 .
  refine sk (sr (mq ?_));obtain⟨x1,u,h⟩:=aa h;refine jb (ba (t:=(.int .u8)) rfl yI pL u) ?_;refine ja (aA (t:=(.int .u8)) rfl pL rfl) ?_;refine aq (nt ?_);refine aN (Z:=Unit) (α:=Int) (λz3 x2=>[(5,.eq (.int .u8 x2))]) (λz3 x2=>[.obj c_a1_0 140 (.eq (.func (.func 88) #[] #[]))]) h (λK h=>?_) (λz3 x2 h=>?_)
  .refine sr (cq (nt (ak ?_)));refine aM (λz5 y4=>[(0,.rep (.slice (.int .u8)) a0),(1,.eq (.func (.func 116) #[] #[(Pv c_a1_0)])),(5,.eq (.int .u8 y4.1)),(6,I y4.2)]) (λz5 y4=>[.obj c_a1_0 140 (.eq (.func (.func 88) #[] #[]))]) (fW k a0) k () (x1,1) (λ_=>rfl) h (SE.fin [0] ⟨rfl,rfl,rfl,rfl,trivial⟩ rfl) (λn z5 y4 h=>?_);unfold fW at h;refine aj (sr ?_);iterate 2 refine mq ?_
   refine ol yI ?_;refine jb (bO rfl) ?_;refine nt (ci h (λh=>?_) (λh=>?_))
   .refine sk (aN (Z:=Unit) (α:=Int) (λz7 x6=>[(0,.rep (.slice (.int .u8)) a0),(1,.eq (.func (.func 116) #[] #[(Pv c_a1_0)])),(5,.eq (.int .u8 x6)),(6,I y4.2)]) (λz7 x6=>[.obj c_a1_0 140 (.eq (.func (.func 88) #[] #[]))]) h (λK h=>?_) (λz7 x6 h=>?_))
    .refine ak (sr ?_);iterate 3 refine mq ?_
     obtain⟨x8,s,h⟩:=aa h;refine jb (ba (t:=(.int .u8)) rfl yI pL s) ?_;refine ja (aA (t:=(.int .u8)) rfl pL rfl) ?_;refine mq ?_;obtain⟨r9,x,h⟩:=aa h;refine kc (tN (fs:=[]) (cs:=[(Pv c_a1_0)]) (ags:=[.eq (.int .u8 x8),.eq (.int .u8 y4.1)]) [.tmp 24,.tmp 25] rfl rfl QZ rfl (tg k x8 y4.1 c_a1_0 r9 x)) ?_;refine jb (bO rfl) ?_;refine nt (ci h (λh=>?_) (λh=>?_))
     .refine ae ?_;iterate 2 refine mq ?_
      obtain⟨l,e,h⟩:=aa h;refine jb (ba (t:=(.int .u8)) rfl yI pL e) ?_;refine ja (aA (t:=(.int .u8)) rfl pL rfl) ?_;refine aq (aI (bn ?_));exact jz ((),l) h [0]
     .refine bi (bn ?_);exact jz ((),y4.1) h [0]
    .refine ae (mq ?_);obtain⟨j,c,h⟩:=aa h;refine jb (bH rfl c) ?_;refine aq (nl ?_);exact jz ((),(x6,j)) h [0]
   .refine xa ?_;exact jz ((),y4.1) h [0]
  .refine sr (mq ?_);refine aq (nt (aE ?_));cases h;exact aL () [_] 1 ⟨rfl,trivial⟩ rfl
def pZ(k:Nat)(a0:(List Int)):Option Int:=
 (jZ k a0).bind λr2=>
 some r2
theorem vS(k:Nat)(a0:(List Int))(r:Int)(h:pZ k a0=some r):
 du Tryz.prog 87 [.rep (.slice (.int .u8)) a0,.eq (.func (.func 88) #[] #[])] [] (λ_:Unit=>(bJ [.eq (.int .u8 r)],[])):=by
 unfold pZ at h
 replace h:=bb h
 refine du.of 8 Tryz.func87 rfl Tryz.ntmps87 rfl λS w0=>?_
 refine sr ?_
 refine bx λb1=>?_
 refine cq ?_
 refine nt ?_
 refine sr ?_
 refine mq ?_
 refine ja (rN [] [.tmp 3] [] [(Pv b1)] rfl rfl rfl) ?_
 obtain⟨r2,c,h⟩:=aa h
 have e:=pQ k a0 b1 r2 c
 refine kb (ay [.tmp 5,.tmp 6] rfl rfl Q0 rfl e) ?_
 refine aq ?_
 refine nt ?_
 refine aE ?_
 cases h
 exact ra
def dq(k:Nat)(a0:(List (List Int)))(a1:(List (List Int))):Nat->Int->Option (Except Bool Unit)
 |0,_=>none
 |n+1,y3=>
  if y3 < (a0.length:Int) then((aV a0 y3).bind λx5=>
  (aV a1 y3).bind λx6=>
  (fg k x5 x6).bind λr7=>
  if¬(r7=true) then(some (.error false)) else((ck (y3+1)).bind λx8=>
  dq k a0 a1 n x8)) else(some (.ok ()))
def fj(k:Nat)(a0:(List (List Int)))(a1:(List (List Int))):Option Bool:=
 if¬((a0.length:Int)=(a1.length:Int)) then(some false) else(bE (α:=Unit) (dq k a0 a1 k 0) (some) λ_=>
 some true)
theorem jp(k:Nat)(a0:(List (List Int)))(a1:(List (List Int)))(r:Bool)(h:fj k a0 a1=some r):
 du Tryz.prog 51 [.rep (.slice Tl) a0,.rep (.slice Tl) a1] [] (λ_:Unit=>(bJ [.eq (.bool r)],[])):=by
 unfold fj at h
 replace h:=bb h
 refine du.of 27 Tryz.func51 rfl Tryz.ntmps51 rfl λS w0=>?_
 refine sr ?_
 refine cq ?_
 refine nt ?_
 refine aj ?_
 refine sr ?_
 refine mq ?_
 refine ol qs ?_
 refine mq ?_
 refine ol qs ?_
 refine jb (dW rfl) ?_
 refine nt ?_
 refine cn h (λh=>?_) (λh=>?_)
 .
  refine sr (cq (nt (rx ?_)));cases h;exact ra
 .
  refine sk (dG (Z:=Unit) (α:=Unit) (λz2 x1=>[]) (λz2 x1=>[]) (λe=>e=r) h (λe h=>Option.some.inj h) (λK hR h=>?_) (λz2 x1 h=>?_))
  .refine sr (cq (nt (ak ?_)));refine aM (λz4 y3=>[(0,.rep (.slice Tl) a0),(1,.rep (.slice Tl) a1),(5,I y3)]) (λz4 y3=>[]) (dq k a0 a1) k () 0 (λ_=>rfl) h (SE.fin [] ⟨rfl,rfl,rfl,trivial⟩ rfl) (λn z4 y3 h=>?_);unfold dq at h;refine aj (sr ?_);iterate 2 refine mq ?_
   refine ol qs ?_;refine jb (bO rfl) ?_;refine nt (ci h (λh=>?_) (λh=>?_))
   .refine sk (aj (ak (aj (cG ?_))));refine dm ?_;refine dm ?_;obtain⟨x5,l,h⟩:=aa h;refine db (ba (t:=Tl) rfl qs iN l) ?_;refine da (aA (t:=Tl) rfl iN rfl) ?_;refine dm ?_;refine dm ?_;obtain⟨x6,j,h⟩:=aa h;refine db (ba (t:=Tl) rfl qs iN j) ?_;refine da (aA (t:=Tl) rfl iN rfl) ?_;refine df dZ ?_;obtain⟨r7,s,h⟩:=aa h;refine jb (ay [.tmp 20,.tmp 24] rfl rfl Ln rfl (iy k x5 x6 r7 s)) ?_;refine ja (ig rfl) ?_;refine nt (cw h (λh=>?_) (λh=>?_))
    .refine sr (cq (nt (aE (br (bL (bz ?_))))));obtain rfl:=hR _ h;exact ra
    .refine bi (aS (tn (ae (mq ?_))));obtain⟨x8,c,h⟩:=aa h;refine jb (bH rfl c) ?_;refine aq (nl ?_);exact jz ((),x8) h []
   .refine xa ?_;exact jz ((),()) h []
  .refine sr (cq (nt (aE ?_)));cases h;exact ra
def fE(k:Nat)(a1:Int):Nat->((List Int)×Int×Int×(List Int)×Int)->Option ((List Int)×(List Int)×Int×Int)
 |0,_=>none
 |n+1,y3=>
  if y3.2.2.2.2 < a1 then((((dS k (y3.1,y3.2.1,y3.2.2.1) 3).bind λr7=>
  if r7.1=true then((cH (bM (length y3.2.2.2.1+length [y3.2.2.2.2]))).bind λ_=>
  some (r7.2.1,r7.2.2.1,r7.2.2.2,y3.2.2.2.1++[y3.2.2.2.2])) else(some (r7.2.1,r7.2.2.1,r7.2.2.2,y3.2.2.2.1))):Option ((List Int)×Int×Int×(List Int))).bind λx5=>
  (ck (y3.2.2.2.2+1)).bind λc=>
  fE k a1 n (x5.1,x5.2.1,x5.2.2.1,x5.2.2.2,c)) else(some (y3.2.2.2.1,y3.1,y3.2.1,y3.2.2.1))
def jN(k:Nat)(a0:bD)(a1:Int):Option ((List Int)×bD):=
 ((fE k a1 k (a0.1,a0.2.1,a0.2.2,([]:(List Int)),0)):Option ((List Int)×(List Int)×Int×Int)).bind λx1=>
 some (x1.1,(x1.2.1,x1.2.2.1,x1.2.2.2))
theorem uM(k:Nat)(a0:bD)(c:Nat)(a1:Int)(r:(List Int)×bD)(h:jN k a0 a1=some r):
 du Tryz.prog 24 [Pt c,I a1] [.obj c 71 (.agg (.pair (.rep Tl a0.1) (.pair (I a0.2.1) (.eq (.int .u64 a0.2.2)))))] (λ_:Unit=>(bJ [.rep Tl r.1],[.obj c 71 (.agg (.pair (.rep Tl r.2.1) (.pair (I r.2.2.1) (.eq (.int .u64 r.2.2.2)))))])):=by
 unfold jN at h
 replace h:=bb h
 refine du.of 19 Tryz.func24 rfl Tryz.ntmps24 rfl λS w0=>?_
 refine sr ?_
 refine cq ?_
 refine nt ?_
 refine sr ?_
 refine cq ?_
 refine nt ?_
 refine aN (Z:=Value) (α:=(List Int)×(List Int)×Int×Int) (λz2 x1=>[(5,.eq z2)]) (λz2 x1=>[.sl z2 3 Ti x1.1,.obj c 71 (.agg (.pair (.rep Tl x1.2.1) (.pair (I x1.2.2.1) (.eq (.int .u64 x1.2.2.2)))))]) h (λK h=>?_) (λz2 x1 h=>?_)
 .
  refine sr (cq (nt (ak ?_)));refine iJ (SE.nil 3 Ti) ?_;refine aM (λz4 y3=>[(0,Pt c),(1,I a1),(5,.eq z4),(6,I y3.2.2.2.2)]) (λz4 y3=>[.obj c 71 (.agg (.pair (.rep Tl y3.1) (.pair (I y3.2.1) (.eq (.int .u64 y3.2.2.1))))),.sl z4 3 Ti y3.2.2.2.1]) (fE k a1) k (.slice none 0 0) (a0.1,a0.2.1,a0.2.2,([]:(List Int)),0) (λ_=>rfl) h (SE.fin [1,0] ⟨rfl,rfl,rfl,rfl,trivial⟩ rfl) (λn z4 y3 h=>?_);unfold fE at h;refine aj (sr ?_);iterate 2 refine mq ?_
  refine jb (bO rfl) ?_;refine nt (ci h (λh=>?_) (λh=>?_))
  .refine sk (aN (Z:=Value) (α:=(List Int)×Int×Int×(List Int)) (λz6 x5=>[(0,Pt c),(1,I a1),(5,.eq z6),(6,I y3.2.2.2.2)]) (λz6 x5=>[.obj c 71 (.agg (.pair (.rep Tl x5.1) (.pair (I x5.2.1) (.eq (.int .u64 x5.2.2.1))))),.sl z6 3 Ti x5.2.2.2]) h (λK h=>?_) (λz6 x5 h=>?_))
   .refine ak (sr (mq ?_));obtain⟨r7,s,h⟩:=aa h;refine kb (ay [.tmp 12,.const (.int .i64 (3))] rfl rfl Ii rfl (fD k (y3.1,y3.2.1,y3.2.2.1) c 3 r7 s)) ?_;refine nt (cv h (λh=>?_) (λh=>?_))
    .refine ae ?_;iterate 2 refine mq ?_
     refine ja (bf (t:=Ti) [(.tmp 15,_)] [y3.2.2.2.2] rfl rfl ec (.cons rfl .int .nil) rfl rfl) ?_;obtain⟨u8,l,h⟩:=aa h;refine fr 1 ?_;refine eh rfl rfl rfl (cx rfl rfl ec (ao l)) ⟨rfl,rfl,trivial⟩ λv9=>?_;refine aq (aI (bn ?_));exact jz (v9,(r7.2.1,r7.2.2.1,r7.2.2.2,y3.2.2.2.1++[y3.2.2.2.2])) h [1,0]
    .refine bi (bn ?_);exact jz (z4,(r7.2.1,r7.2.2.1,r7.2.2.2,y3.2.2.2.1)) h [0,1]
   .refine ae (mq ?_);obtain⟨j,e,h⟩:=aa h;refine jb (bH rfl e) ?_;refine aq (nl ?_);exact jz (z6,(x5.1,x5.2.1,x5.2.2.1,x5.2.2.2,j)) h [0,1]
  .refine xa ?_;exact jz (z4,(y3.2.2.2.1,y3.1,y3.2.1,y3.2.2.1)) h [1,0]
 .
  refine sr (mq ?_);refine aq (nt (aE ?_));refine bo (ju [4,5,18] ⟨rfl,rfl,rfl,trivial⟩) ?_;cases h;exact aL () [_] 1 ⟨rfl,trivial⟩ rfl
def dL(k:Nat)(a0:ab):Nat->((List (List (List Int)))×Int)->Option (List (List (List Int)))
 |0,_=>none
 |n+1,y9=>
  if y9.2 < (a0.2.2.2.2.1.length:Int) then((aV a0.2.2.2.2.1 y9.2).bind λh=>
  (gi k h).bind λc=>
  (cH (bM (length y9.1+length [c]))).bind λ_=>
  (ck (y9.2+1)).bind λe=>
  dL k a0 n (y9.1++[c],e)) else(some y9.1)
def im(k:Nat)(a0:ab):Option ab:=
 (cH (bM (length ([]:(List aG))+length a0.2.2.2.2.2))).bind λ_=>
 ((dL k a0 k (([]:(List (List (List Int)))),0)):Option ((List (List (List Int))))).bind λx7=>
 some (a0.1,a0.2.1,a0.2.2.1,a0.2.2.2.1,x7,([]:(List aG))++a0.2.2.2.2.2)
theorem sj(k:Nat)(a0:ab)(r:ab)(h:im k a0=some r):
 du Tryz.prog 19 [.rep am a0] [] (λz:Value=>(bJ [.agg (.pair (I r.1) (.pair (I r.2.1) (.pair (I r.2.2.1) (.pair (I r.2.2.2.1) (.pair (.rep (.slice (.slice Tl)) r.2.2.2.2.1) (.eq z))))))],[.sl z 47 aH r.2.2.2.2.2])):=by
 unfold im at h
 replace h:=bb h
 refine du.of 30 Tryz.func19 rfl Tryz.ntmps19 rfl λS w0=>?_
 refine sr ?_
 refine bx λb1=>?_
 refine aQ rfl rfl rfl (aX rfl mV tC) trivial λb2=>?_
 refine nt ?_
 refine sr ?_
 refine fl cU ?_
 refine fr 1 ?_
 refine lo ic ?_
 refine aq ?_
 refine nt ?_
 refine sr ?_
 refine aQ rfl rfl rfl (lg (t:=aH) [] ([]:(List aG)) rfl rfl vG .nil rfl rfl) trivial λv3=>?_
 refine fl f8 ?_
 refine fr 1 ?_
 refine lo m9 ?_
 obtain⟨u4,E,h⟩:=aa h
 refine fr 1 ?_
 refine eh rfl rfl rfl (cx rfl rfl vG (ao E)) ⟨rfl,rfl,trivial⟩ λv5=>?_
 refine fl cU ?_
 refine fr 1 ?_
 refine aF rfl rfl (aC rfl ic rfl rfl rfl) ⟨rfl,rfl,trivial⟩ ?_
 refine fl f8 ?_
 refine fr 1 ?_
 refine mh λo6=>?_
 refine fr 1 ?_
 refine aF rfl rfl (aC rfl m9 o6 rfl rfl) ⟨rfl,rfl,trivial⟩ ?_
 refine nt ?_
 refine aN (Z:=Value) (α:=(List (List (List Int)))) (λz8 x7=>[(1,Pt b1),(2,Pt b2)]) (λz8 x7=>[.obj b1 26 (.agg (.pair (I a0.1) (.pair (I a0.2.1) (.pair (I a0.2.2.1) (.pair (I a0.2.2.2.1) (.pair (.eq z8) (.eq v5))))))),.sl z8 30 (.slice Tl) x7,.sl v5 47 aH (([]:(List aG))++a0.2.2.2.2.2),.obj b2 26 (.agg (.pair (I 0) (.pair (I 0) (.pair (I 0) (.pair (I 0) (.pair (.eq (.slice none 0 0)) (.eq (.slice none 0 0))))))))]) h (λK h=>?_) (λz8 x7 h=>?_)
 .
  refine sr (cq (nt (ak ?_)));refine iJ (SE.nil 30 (.slice Tl)) ?_;refine dI 1 rfl ?_;refine iJ (dT (a:=.agg (.pair (.rep Ti a0.1) (.pair (.rep Ti a0.2.1) (.pair (.rep Ti a0.2.2.1) (.pair (.rep Ti a0.2.2.2.1) (.pair (.eq (.slice none 0 0)) (.eq v5))))))) (a':=.agg (.pair (I a0.1) (.pair (I a0.2.1) (.pair (I a0.2.2.1) (.pair (I a0.2.2.2.1) (.pair (.eq (.slice none 0 0)) (.eq v5))))))) (AE.agg (AE.pair AE.int (AE.pair AE.int (AE.pair AE.int (AE.pair AE.int AE.rfl)))))) ?_;refine aM (λc y9=>[(1,Pt b1),(2,Pt b2),(3,.rep (.slice (.slice Tl)) a0.2.2.2.2.1),(4,I y9.2)]) (λc y9=>[.obj b1 26 (.agg (.pair (I a0.1) (.pair (I a0.2.1) (.pair (I a0.2.2.1) (.pair (I a0.2.2.2.1) (.pair (.eq c) (.eq v5))))))),.sl c 30 (.slice Tl) y9.1,.sl v5 47 aH (([]:(List aG))++a0.2.2.2.2.2),.obj b2 26 (.agg (.pair (I 0) (.pair (I 0) (.pair (I 0) (.pair (I 0) (.pair (.eq (.slice none 0 0)) (.eq (.slice none 0 0))))))))]) (dL k a0) k (.slice none 0 0) (([]:(List (List (List Int)))),0) (λ_=>rfl) h (SE.fin [0,1,2,3] ⟨rfl,rfl,rfl,rfl,trivial⟩ rfl) (λn c y9 h=>?_);unfold dL at h;refine aj (sr ?_);iterate 2 refine mq ?_
  refine ol tX ?_;refine jb (bO rfl) ?_;refine nt (ci h (λh=>?_) (λh=>?_))
  .refine sk (aj (ak (cG ?_)));refine da (ap rfl cU) ?_;refine ea 0 (an rfl ic jj rfl) ?_;refine dm ?_;refine dm ?_;obtain⟨y,l,h⟩:=aa h;refine db (ba (t:=(.slice Tl)) rfl tX qE l) ?_;refine da (aA (t:=(.slice Tl)) rfl qE rfl) ?_;obtain⟨e,u,h⟩:=aa h;refine da (yw (ay [.tmp 24] rfl rfl QM rfl (mM k y e u))) ?_;refine da (bf (t:=(.slice Tl)) [(.tmp 25,_)] [e] rfl rfl xt (.cons rfl .rep .nil) rfl rfl) ?_;refine df dZ ?_;obtain⟨F,s,h⟩:=aa h;refine fr 1 ?_;refine eh rfl rfl rfl (cx rfl rfl xt (ao s)) ⟨rfl,rfl,trivial⟩ λD=>?_;refine fl cU ?_;refine mh λo15=>?_;refine fr 1 ?_;refine aF rfl rfl (aC rfl ic o15 rfl rfl) ⟨rfl,rfl,trivial⟩ ?_;refine aI (aS (tn (ae (mq ?_))));obtain⟨x,j,h⟩:=aa h;refine jb (bH rfl j) ?_;refine aq (nl ?_);exact jz (D,(y9.1++[e],x)) h [0,1,2,3]
  .refine xa ?_;exact jz (c,y9.1) h [0,1,2,3]
 .
  refine sr (lo cV ?_);refine fr 3 ?_;refine aF rfl rfl (aC rfl cV trivial rfl rfl) ⟨rfl,rfl,trivial⟩ ?_;refine nt (aE (bp 2 rfl ?_));refine bo (iE (off:=4) [] trivial rfl rfl) ?_;refine bo (SE.fin (Γ':=[(2,_)]) [2,0,1] ⟨rfl,trivial⟩ rfl) ?_;cases h;exact aL v5 [.agg (.pair (I a0.1) (.pair (I a0.2.1) (.pair (I a0.2.2.1) (.pair (I a0.2.2.2.1) (.pair (.rep (.slice (.slice Tl)) x7) (.eq v5))))))] 1 ⟨⟨_,_,_,_,_,rfl,(.tail _ (.head _)),cV,(nK),rfl⟩,trivial⟩ rfl
def ff(k:Nat)(a0:(List (List Int)))(a1:(List Int)):Nat->Int->Option (Except Bool Unit)
 |0,_=>none
 |n+1,y3=>
  if y3 < (a0.length:Int) then((aV a0 y3).bind λx5=>
  (fg k x5 a1).bind λr6=>
  if r6=true then(some (.error true)) else((ck (y3+1)).bind λx7=>
  ff k a0 a1 n x7)) else(some (.ok ()))
def mL(k:Nat)(a0:(List (List Int)))(a1:(List Int)):Option Bool:=
 bE (α:=Unit) (ff k a0 a1 k 0) (some) λ_=>
 some false
theorem xY(k:Nat)(a0:(List (List Int)))(a1:(List Int))(r:Bool)(h:mL k a0 a1=some r):
 du Tryz.prog 21 [.rep (.slice Tl) a0,.rep Tl a1] [] (λ_:Unit=>(bJ [.eq (.bool r)],[])):=by
 unfold mL at h
 replace h:=bb h
 refine du.of 18 Tryz.func21 rfl Tryz.ntmps21 rfl λS w0=>?_
 refine sr ?_
 refine cq ?_
 refine nt ?_
 refine dG (Z:=Unit) (α:=Unit) (λz2 x1=>[]) (λz2 x1=>[]) (λe=>e=r) h (λe h=>Option.some.inj h) (λK hR h=>?_) (λz2 x1 h=>?_)
 .
  refine sr (cq (nt (ak ?_)));refine aM (λz4 y3=>[(0,.rep (.slice Tl) a0),(1,.rep Tl a1),(5,I y3)]) (λz4 y3=>[]) (ff k a0 a1) k () 0 (λ_=>rfl) h (SE.fin [] ⟨rfl,rfl,rfl,trivial⟩ rfl) (λn z4 y3 h=>?_);unfold ff at h;refine aj (sr ?_);iterate 2 refine mq ?_
  refine ol qs ?_;refine jb (bO rfl) ?_;refine nt (ci h (λh=>?_) (λh=>?_))
  .refine sk (aj (ak (sr ?_)));iterate 2 refine mq ?_
   obtain⟨x5,j,h⟩:=aa h;refine jb (ba (t:=Tl) rfl qs iN j) ?_;refine ja (aA (t:=Tl) rfl iN rfl) ?_;refine mq ?_;obtain⟨r6,l,h⟩:=aa h;refine jb (ay [.tmp 15,.tmp 16] rfl rfl Ln rfl (iy k x5 a1 r6 l)) ?_;refine nt (cv h (λh=>?_) (λh=>?_))
   .refine sr (cq (nt (aE (br (bL (bz ?_))))));obtain rfl:=hR _ h;exact ra
   .refine bi (aS (tn (ae (mq ?_))));obtain⟨x7,c,h⟩:=aa h;refine jb (bH rfl c) ?_;refine aq (nl ?_);exact jz ((),x7) h []
  .refine xa ?_;exact jz ((),()) h []
 .
  refine sr (cq (nt (aE ?_)));cases h;exact ra
def dp(k:Nat)(a0:ab)(a1:ab):Nat->Int->Option (Except Bool Unit)
 |0,_=>none
 |n+1,y7=>
  if y7 < (a0.2.2.2.2.1.length:Int) then((aV a0.2.2.2.2.1 y7).bind λx9=>
  (aV a1.2.2.2.2.1 y7).bind λe=>
  (fj k x9 e).bind λh=>
  if¬(h=true) then(some (.error false)) else((ck (y7+1)).bind λc=>
  dp k a0 a1 n c)) else(some (.ok ()))
def dn(k:Nat)(a0:ab)(a1:ab):Nat->Int->Option (Except Bool Unit)
 |0,_=>none
 |n+1,c=>
  if c < (a0.2.2.2.2.2.length:Int) then((aV a0.2.2.2.2.2 c).bind λj=>
  (aV a1.2.2.2.2.2 c).bind λh=>
  if¬(j=h) then(some (.error false)) else((ck (c+1)).bind λe=>
  dn k a0 a1 n e)) else(some (.ok ()))
def ij(k:Nat)(a0:ab)(a1:ab):Option Bool:=
 ((if¬(a0.1=a1.1) then(some true) else(if¬(a0.2.1=a1.2.1) then(some true) else(if¬(a0.2.2.1=a1.2.2.1) then(some true) else(if¬(a0.2.2.2.1=a1.2.2.2.1) then(some true) else(if¬((a0.2.2.2.2.1.length:Int)=(a1.2.2.2.2.1.length:Int)) then(some true) else(some (!decide ((a0.2.2.2.2.2.length:Int)=(a1.2.2.2.2.2.length:Int))))))))):Option (Bool)).bind λx3=>
 if x3=true then(some false) else(bE (α:=Unit) (dp k a0 a1 k 0) (some) λ_=>
 bE (α:=Unit) (dn k a0 a1 k 0) (some) λ_=>
 some true)
theorem sc(k:Nat)(a0:ab)(a1:ab)(r:Bool)(h:ij k a0 a1=some r):
 du Tryz.prog 22 [.rep am a0,.rep am a1] [] (λ_:Unit=>(bJ [.eq (.bool r)],[])):=by
 unfold ij at h
 replace h:=bb h
 refine du.of 88 Tryz.func22 rfl Tryz.ntmps22 rfl λS w0=>?_
 refine sr ?_
 refine bx λb1=>?_
 refine bx λb2=>?_
 refine cq ?_
 refine nt ?_
 refine aj ?_
 refine aN (Z:=Unit) (α:=Bool) (λz4 x3=>[(2,Pt b1),(3,Pt b2),(50,.eq (.bool x3))]) (λz4 x3=>[.obj b1 26 (.rep am a0),.obj b2 26 (.rep am a1)]) h (λK h=>?_) (λz4 x3 h=>?_)
 .
  refine ae (fl fG ?_);refine fr 1 ?_;refine lo cJ ?_;refine fl fG ?_;refine fr 1 ?_;refine lo cJ ?_;refine jb (dW rfl) ?_;refine mq ?_;refine bN (s:=12) rfl (λhb=>?_) (λhb=>?_)
  .replace h:=eu (KE hb) h;iterate 5 refine gn ?_
   refine pt ?_;refine mq ?_;iterate 5 refine gn ?_
   refine pt ?_;refine mq ?_;iterate 5 refine gn ?_
   refine pt ?_;refine mq ?_;iterate 7 refine gn ?_
   refine pt ?_;refine mq ?_;iterate 7 refine gn ?_
   refine pt (nl ?_);exact jz ((),true) h [1,0]
  .replace h:=cK (xP hb) h;refine ga (ap rfl uS) ?_;refine fr 1 ?_;refine eO rfl rfl rfl rfl rfl rfl (an rfl cJ jj rfl) ⟨rfl,trivial⟩ ?_;refine ga (ap rfl uS) ?_;refine fr 1 ?_;refine eO rfl rfl rfl rfl rfl rfl (an rfl cJ jj rfl) ⟨rfl,trivial⟩ ?_;refine gb (dW rfl) ?_;refine pf ?_;refine mq ?_;refine bN (s:=19) rfl (λhb=>?_) (λhb=>?_)
   .replace h:=eu (KE hb) h;iterate 5 refine gn ?_
    refine pt ?_;refine mq ?_;iterate 5 refine gn ?_
    refine pt ?_;refine mq ?_;iterate 7 refine gn ?_
    refine pt ?_;refine mq ?_;iterate 7 refine gn ?_
    refine pt (nl ?_);exact jz ((),true) h [1,0]
   .replace h:=cK (xP hb) h;refine ga (ap rfl sC) ?_;refine fr 1 ?_;refine eO rfl rfl rfl rfl rfl rfl (an rfl cJ jj rfl) ⟨rfl,trivial⟩ ?_;refine ga (ap rfl sC) ?_;refine fr 1 ?_;refine eO rfl rfl rfl rfl rfl rfl (an rfl cJ jj rfl) ⟨rfl,trivial⟩ ?_;refine gb (dW rfl) ?_;refine pf ?_;refine mq ?_;refine bN (s:=26) rfl (λhb=>?_) (λhb=>?_)
    .replace h:=eu (KE hb) h;iterate 5 refine gn ?_
     refine pt ?_;refine mq ?_;iterate 7 refine gn ?_
     refine pt ?_;refine mq ?_;iterate 7 refine gn ?_
     refine pt (nl ?_);exact jz ((),true) h [1,0]
    .replace h:=cK (xP hb) h;refine ga (ap rfl yg) ?_;refine fr 1 ?_;refine eO rfl rfl rfl rfl rfl rfl (an rfl cJ jj rfl) ⟨rfl,trivial⟩ ?_;refine ga (ap rfl yg) ?_;refine fr 1 ?_;refine eO rfl rfl rfl rfl rfl rfl (an rfl cJ jj rfl) ⟨rfl,trivial⟩ ?_;refine gb (dW rfl) ?_;refine pf ?_;refine mq ?_;refine bN (s:=33) rfl (λhb=>?_) (λhb=>?_)
     .replace h:=eu (KE hb) h;iterate 7 refine gn ?_
      refine pt ?_;refine mq ?_;iterate 7 refine gn ?_
      refine pt (nl ?_);exact jz ((),true) h [1,0]
     .replace h:=cK (xP hb) h;refine ga (ap rfl cU) ?_;refine fr 1 ?_;refine eO rfl rfl rfl rfl rfl rfl (an rfl ic jj rfl) ⟨rfl,trivial⟩ ?_;refine ga (jg rfl rfl tX) ?_;refine ga (ap rfl cU) ?_;refine fr 1 ?_;refine eO rfl rfl rfl rfl rfl rfl (an rfl ic jj rfl) ⟨rfl,trivial⟩ ?_;refine ga (jg rfl rfl tX) ?_;refine gb (dW rfl) ?_;refine pf ?_;refine mq ?_;refine bN (s:=42) rfl (λhb=>?_) (λhb=>?_)
      .replace h:=eu (KE hb) h;iterate 7 refine gn ?_
       refine pt (nl ?_);exact jz ((),true) h [1,0]
      .replace h:=cK (xP hb) h;refine ga (ap rfl f8) ?_;refine fr 1 ?_;refine eO rfl rfl rfl rfl rfl rfl (an rfl m9 jj rfl) ⟨rfl,trivial⟩ ?_;refine ga (jg rfl rfl D4) ?_;refine ga (ap rfl f8) ?_;refine fr 1 ?_;refine eO rfl rfl rfl rfl rfl rfl (an rfl m9 jj rfl) ⟨rfl,trivial⟩ ?_;refine ga (jg rfl rfl D4) ?_;refine gb (dW rfl) ?_;refine pf (nl ?_);exact jz ((), !decide ((a0.2.2.2.2.2.length:Int)=(a1.2.2.2.2.2.length:Int))) h [1,0]
 .
  refine cv h (λh=>?_) (λh=>?_)
  .refine sr (cq (nt (rx ?_)));cases h;exact ra
  .refine sk (dG (Z:=Unit) (α:=Unit) (λz6 x5=>[(2,Pt b1),(3,Pt b2)]) (λz6 x5=>[.obj b1 26 (.rep am a0),.obj b2 26 (.rep am a1)]) (λe=>e=r) h (λe h=>Option.some.inj h) (λK hR h=>?_) (λz6 x5 h=>?_))
   .refine sr (cq (nt (ak ?_)));refine aM (λz8 y7=>[(2,Pt b1),(3,Pt b2),(5,I y7)]) (λz8 y7=>[.obj b1 26 (.rep am a0),.obj b2 26 (.rep am a1)]) (dp k a0 a1) k () 0 (λ_=>rfl) h (SE.fin [0,1] ⟨rfl,rfl,rfl,trivial⟩ rfl) (λn z8 y7 h=>?_);unfold dp at h;refine aj (sr (mq ?_));refine fl cU ?_;refine lo ic ?_;refine ol tX ?_;refine jb (bO rfl) ?_;refine nt (ci h (λh=>?_) (λh=>?_))
    .refine sk (aj (ak (aj (cG ?_))));refine da (ap rfl cU) ?_;refine ea 0 (an rfl ic jj rfl) ?_;refine dm ?_;obtain⟨x9,X,h⟩:=aa h;refine db (ba (t:=(.slice Tl)) rfl tX qE X) ?_;refine da (aA (t:=(.slice Tl)) rfl qE rfl) ?_;refine da (ap rfl cU) ?_;refine ea 1 (an rfl ic jj rfl) ?_;refine dm ?_;obtain⟨Q,F,h⟩:=aa h;refine db (ba (t:=(.slice Tl)) rfl tX qE F) ?_;refine da (aA (t:=(.slice Tl)) rfl qE rfl) ?_;refine df dZ ?_;obtain⟨U,J,h⟩:=aa h;refine jb (ay [.tmp 62,.tmp 67] rfl rfl OI rfl (jp k x9 Q U J)) ?_;refine ja (ig rfl) ?_;refine nt (cw h (λh=>?_) (λh=>?_))
     .refine sr (cq (nt (aE (br (bL (bz ?_))))));obtain rfl:=hR _ h;exact ra
     .refine bi (aS (tn (ae (mq ?_))));obtain⟨O,E,h⟩:=aa h;refine jb (bH rfl E) ?_;refine aq (nl ?_);exact jz ((),O) h [0,1]
    .refine xa ?_;exact jz ((),()) h [0,1]
   .refine dG (Z:=Unit) (α:=Unit) (λl u=>[]) (λl u=>[]) (λe=>e=r) h (λe h=>Option.some.inj h) (λK hR h=>?_) (λl u h=>?_)
    .refine sr (cq (nt (ak ?_)));refine aM (λj c=>[(2,Pt b1),(3,Pt b2),(6,I c)]) (λj c=>[.obj b1 26 (.rep am a0),.obj b2 26 (.rep am a1)]) (dn k a0 a1) k () 0 (λ_=>rfl) h (SE.fin [0,1] ⟨rfl,rfl,rfl,trivial⟩ rfl) (λn j c h=>?_);unfold dn at h;refine aj (sr (mq ?_));refine fl f8 ?_;refine lo m9 ?_;refine ol D4 ?_;refine jb (bO rfl) ?_;refine nt (ci h (λh=>?_) (λh=>?_))
     .refine sk (aj (ak (aj (cG ?_))));refine da (ap rfl f8) ?_;refine ea 0 (an rfl m9 jj rfl) ?_;refine dm ?_;obtain⟨gw,D,h⟩:=aa h;refine db (ba (t:=aH) rfl D4 jE D) ?_;refine da (aA (t:=aH) rfl jE rfl) ?_;refine da (ap rfl f8) ?_;refine ea 1 (an rfl m9 jj rfl) ?_;refine dm ?_;obtain⟨Y,y,h⟩:=aa h;refine db (ba (t:=aH) rfl D4 jE y) ?_;refine da (aA (t:=aH) rfl jE rfl) ?_;refine df dZ ?_;refine jb (G6 rfl SU rfl) ?_;refine nt (cn h (λh=>?_) (λh=>?_))
      .refine sr (cq (nt (aE (br (bL (bz ?_))))));obtain rfl:=hR _ h;exact ra
      .refine bi (aS (tn (ae (mq ?_))));obtain⟨M,x,h⟩:=aa h;refine jb (bH rfl x) ?_;refine aq (nl ?_);exact jz ((),M) h [0,1]
     .refine xa ?_;exact jz ((),()) h []
    .refine sr (cq (nt (aE ?_)));cases h;exact ra
