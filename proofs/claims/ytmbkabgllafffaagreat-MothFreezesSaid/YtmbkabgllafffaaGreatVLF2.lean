import Derived.Test.YtmbkabgllafffaaGreatVLB10
open Nat
open List hiding mem_of_getElem?
open Array hiding mem_of_getElem? mk
set_option linter.unusedSimpArgs false
set_option linter.unusedVariables false
set_option maxRecDepth 4000
set_option maxHeartbeats 1000000
namespace Go.Proofs.YtmbkabgllafffaaGreat
open K Go Go.Proofs
def f9(k:Nat)(r4:(List Int)×bV):Nat->((List Int)×Int×Int×Int×(List (List Int)))->Option ((List Int)×Int×Int×(List (List Int)))
 |0,_=>none
 |n+1,y7=>
  if y7.2.2.2.1 < (r4.1.length:Int) then((((fW k (y7.1,y7.2.1,y7.2.2.1) 5).bind λc=>
  if c.1=true then(some (c.2.1,c.2.2.1,c.2.2.2,y7.2.2.2.2)) else((ck ((y7.2.2.2.2.length:Int) - 1)).bind λr=>
  (cy k (c.2.1,c.2.2.1,c.2.2.2) r).bind λe=>
  (aG y7.2.2.2.2 e.1).bind λj=>
  (aG r4.1 y7.2.2.2.1).bind λh=>
  (bU (aR (length j+length [h]))).bind λ_=>
  some (e.2.1,e.2.2.1,e.2.2.2,List.set y7.2.2.2.2 (Int.toNat e.1) (j++[h])))):Option ((List Int)×Int×Int×(List (List Int)))).bind λx9=>
  (ck (y7.2.2.2.1+1)).bind λl=>
  f9 k r4 n (x9.1,x9.2.1,x9.2.2.1,l,x9.2.2.2)) else(some (y7.1,y7.2.1,y7.2.2.1,y7.2.2.2.2))
def kW(k:Nat)(a0:bV)(a1:Int):Option ((List (List Int))×bV):=
 (gA k (a0.1,a0.2.1,a0.2.2) 1 3).bind λr1=>
 (bU (0≤r1.1/\aR (Int.toNat r1.1))).bind λ_=>
 (iL k (r1.2.1,r1.2.2.1,r1.2.2.2) a1).bind λr4=>
 ((f9 k r4 k (r4.2.1,r4.2.2.1,r4.2.2.2,0,List.replicate (Int.toNat r1.1) ([]:(List Int)))):Option ((List Int)×Int×Int×(List (List Int)))).bind λx5=>
 some (x5.2.2.2,(x5.1,x5.2.1,x5.2.2.1))
theorem wA(k:Nat)(a0:bV)(c:Nat)(a1:Int)(r:(List (List Int))×bV)(h:kW k a0 a1=some r):
 c6 Tryz.prog 60 [Pt c,I a1] [.obj c 60 (.agg (.pair (.rep Tl a0.1) (.pair (I a0.2.1) (.eq (.int .u64 a0.2.2)))))] (λ_:Unit=>(bA [.rep (.slice Tl) r.1],[.obj c 60 (.agg (.pair (.rep Tl r.2.1) (.pair (I r.2.2.1) (.eq (.int .u64 r.2.2.2)))))])):=by
 unfold kW at h
 replace h:=bb h
 refine c6.of 42 Tryz.func60 rfl Tryz.ntmps60 rfl λS w0=>?_
 refine sr ?_
 refine cq ?_
 refine nt ?_
 refine sr ?_
 refine mq ?_
 obtain⟨r1,Xm,h⟩:=aa h
 have Xo:=jZ k (a0.1,a0.2.1,a0.2.2) c 1 3 r1 Xm
 refine kc (av [.tmp 9,.const (.int .i64 (1)),.const (.int .i64 (3))] rfl rfl NT rfl Xo) ?_
 obtain⟨u2,U,h⟩:=aa h
 refine aW rfl rfl rfl (Qu (t:=.val) (d:=.slice none 0 0) rfl kj RU (ap U).1 (ap U).2) ⟨rfl,rfl,trivial⟩ λv3=>?_
 refine d4 (KQ (F:=[.obj c 60 (.agg (.pair (.rep Tl r1.2.1) (.pair (I r1.2.2.1) (.eq (.int .u64 r1.2.2.2)))))])) ?_
 refine aq ?_
 refine nt ?_
 refine sr ?_
 iterate 2 refine mq ?_
 obtain⟨r4,Xl,h⟩:=aa h
 have Xn:=tc k (r1.2.1,r1.2.2.1,r1.2.2.2) c a1 r4 Xl
 refine kb (av [.tmp 12,.tmp 13] rfl rfl VO rfl Xn) ?_
 refine aq ?_
 refine nt ?_
 refine aE (Z:=(Value×(Nat->Value))) (α:=(List Int)×Int×Int×(List (List Int))) (λz6 x5=>[(5,.eq z6.1)]) (λz6 x5=>[.obj c 60 (.agg (.pair (.rep Tl x5.1) (.pair (I x5.2.1) (.eq (.int .u64 x5.2.2.1)))))]++zq 22 z6 x5.2.2.2) h (λK h=>?_) (λz6 x5 h=>?_)
 .
  refine sr (cq (nt (ah ?_)));refine aC (Z:=(Value×(Nat->Value))) (α:=(List Int)×Int×Int×Int×(List (List Int))) (λz8 y7=>[(0,Pt c),(5,.eq z8.1),(6,.rep Tl r4.1),(7,I y7.2.2.2.1)]) (λz8 y7=>[.obj c 60 (.agg (.pair (.rep Tl y7.1) (.pair (I y7.2.1) (.eq (.int .u64 y7.2.2.1)))))]++zq 22 z8 y7.2.2.2.2) (f9 k r4) k (v3,λ_=>.slice none 0 0) (r4.2.1,r4.2.2.1,r4.2.2.2,0,List.replicate (Int.toNat r1.1) ([]:(List Int))) (λ_=>rfl) h (lW [.obj c 60 (.agg (.pair (.rep Tl r4.2.1) (.pair (I r4.2.2.1) (.eq (.int .u64 r4.2.2.2)))))] (zq 22 (v3,λ_=>.slice none 0 0) (List.replicate (Int.toNat r1.1) ([]:(List Int)))) [0] ⟨rfl,rfl,rfl,rfl,trivial⟩ rfl) (λn z8 y7 h=>?_);unfold f9 at h;refine ai (sr ?_);iterate 2 refine mq ?_
  refine ol gi ?_;refine jb (bh rfl) ?_;refine nt (ci h (λh=>?_) (λh=>?_))
  .refine sk (aE (Z:=(Value×(Nat->Value))) (α:=(List Int)×Int×Int×(List (List Int))) (λy x9=>[(0,Pt c),(5,.eq y.1),(6,.rep Tl r4.1),(7,I y7.2.2.2.1)]) (λy x9=>[.obj c 60 (.agg (.pair (.rep Tl x9.1) (.pair (I x9.2.1) (.eq (.int .u64 x9.2.2.1)))))]++zq 22 y x9.2.2.2) h (λK h=>?_) (λy x9 h=>?_))
   .refine ah (ai (sr (mq ?_)));obtain⟨j,gw,h⟩:=aa h;refine kb (av [.tmp 21,.const (.int .i64 (5))] rfl rfl QX rfl (kD k (y7.1,y7.2.1,y7.2.2.1) c 5 j gw)) ?_;refine nt (cv h (λh=>?_) (λh=>?_))
    .refine eQ (bp (cM (ax ?_)));exact xb (z8,(j.2.1,j.2.2.1,j.2.2.2,y7.2.2.2.2)) h (lW [.obj c 60 (.agg (.pair (.rep Tl j.2.1) (.pair (I j.2.2.1) (.eq (.int .u64 j.2.2.2)))))] (zq 22 z8 y7.2.2.2.2) [0] ⟨rfl,rfl,rfl,rfl,trivial⟩ rfl)
    .refine sk (sr ?_);iterate 2 refine mq ?_
     refine KZ (pre:=[.obj c 60 (.agg (.pair (.rep Tl j.2.1) (.pair (I j.2.2.1) (.eq (.int .u64 j.2.2.2)))))]) rfl rfl rfl rfl rfl lF ⟨rfl,trivial⟩ ?_;obtain⟨mw,Q,h⟩:=aa h;refine jb (eJ rfl Q) ?_;obtain⟨e,Y,h⟩:=aa h;refine kb (av [.tmp 23,.tmp 26] rfl rfl J7 rfl (cI k (j.2.1,j.2.2.1,j.2.2.2) c mw e Y)) ?_;refine aq (nt ?_);obtain⟨x,s,h⟩:=aa h;refine fS (HA (pre:=[.obj c 60 (.agg (.pair (.rep Tl e.2.1) (.pair (I e.2.2.1) (.eq (.int .u64 e.2.2.2)))))]) (Fp s).2) ?_;obtain⟨u,O,h⟩:=aa h;obtain⟨u16,X,h⟩:=aa h;refine K2 (Δ:=[.sl (z8.2 (Int.toNat e.1)) 3 Ti x,.sl z8.1 22 .val (pD z8.2 0 y7.2.2.2.2),.obj c 60 (.agg (.pair (.rep Tl e.2.1) (.pair (I e.2.2.1) (.eq (.int .u64 e.2.2.2)))))]) (F:=(pr z8.2 0 y7.2.2.2.2).eraseIdx (Int.toNat e.1)) (Z:=Value) (λi=>[(0,Pt c),(5,.eq z8.1),(6,.rep Tl r4.1),(7,I y7.2.2.2.1)]) (λi=>[.sl z8.1 22 .val (List.set (pD z8.2 0 y7.2.2.2.2) (Int.toNat e.1) i),.sl i 3 Ti (x++[u]),.obj c 60 (.agg (.pair (.rep Tl e.2.1) (.pair (I e.2.2.1) (.eq (.int .u64 e.2.2.2)))))]) (λS w=>?_) (λl=>?_)
     .refine qy ?_;refine bM rfl rfl rfl (ba rfl) ⟨rfl,trivial⟩ ?_;refine bM rfl rfl rfl (ba rfl) ⟨rfl,trivial⟩ ?_;refine bM rfl rfl rfl (ba rfl) ⟨rfl,trivial⟩ ?_;refine bM rfl rfl rfl (ba rfl) ⟨rfl,trivial⟩ ?_;refine iO 1 rfl rfl rfl rfl (cQ (t:=.val) rfl lF dO (vg s)) ⟨rfl,rfl,trivial⟩ ?_;refine iO 1 rfl rfl rfl rfl (ij (i:=Int.toNat e.1) (off:=0) rfl dO (λ_=>rfl) rfl (dR (vg s)).2.2 rfl) ⟨rfl,trivial⟩ ?_;refine bM rfl rfl rfl (ba rfl) ⟨rfl,trivial⟩ ?_;refine bM rfl rfl rfl (ba rfl) ⟨rfl,trivial⟩ ?_;refine bM rfl rfl rfl (aA (t:=Ti) rfl gi bR O) ⟨rfl,rfl,trivial⟩ ?_;refine bM rfl rfl rfl (am (t:=Ti) rfl bR rfl) ⟨rfl,trivial⟩ ?_;refine bM rfl rfl rfl (aP (t:=Ti) [(.tmp 37,_)] [u] rfl rfl cZ (.cons rfl .int .nil) rfl rfl) ⟨rfl,trivial⟩ ?_;refine Lc 0 rfl (λv=>[.sl v 3 Ti (x++[u])]) (λ_=>rfl) rfl rfl rfl (bf rfl rfl cZ (ap X)) ⟨rfl,rfl,trivial⟩ ?_;refine uE 12 [true,true,true,true,true,true,true,true,true,true,true,true] [40] [] [] rfl (by kernel_rfl) (by kernel_rfl) (by kernel_rfl) cY (λvs hv hB=>?_);obtain⟨w0,XB,rfl,Xk⟩:=aF hv;obtain⟨w1,XA,rfl,Xj⟩:=aF Xk;obtain⟨w2,Xz,rfl,Xi⟩:=aF Xj;obtain⟨w3,Xy,rfl,Xh⟩:=aF Xi;obtain⟨w4,Xx,rfl,Xg⟩:=aF Xh;obtain⟨w5,Xw,rfl,Xf⟩:=aF Xg;obtain⟨w6,Xv,rfl,Xe⟩:=aF Xf;obtain⟨w7,Xu,rfl,zz⟩:=aF Xe;obtain⟨w8,Xt,rfl,qt⟩:=aF zz;obtain⟨w9,Xr,rfl,J⟩:=aF qt;obtain⟨Xs,Xq,rfl,E⟩:=aF J;obtain⟨l,Xp,rfl,D⟩:=aF E;obtain rfl:=qK D;refine⟨[0,1,2],[.sl z8.1 22 .val (pD z8.2 0 y7.2.2.2.2),.obj c 60 (.agg (.pair (.rep Tl e.2.1) (.pair (I e.2.2.1) (.eq (.int .u64 e.2.2.2))))),.sl l 3 Ti (x++[u])],by kernel_rfl,by decide,?_⟩;refine wX rfl rfl rfl rfl (cQ (t:=.val) rfl lF dO (vg s)) ⟨rfl,rfl,trivial⟩ (by kernel_rfl) ?_;refine qx 2 rfl ?_;refine Rw λo18=>?_;refine qx 1 rfl ?_;refine sH rfl rfl (iD (i:=Int.toNat e.1) rfl dO rfl (oZ (vg s)) rfl (.val o18) o18) ⟨rfl,rfl,trivial⟩ (by kernel_rfl) ?_;refine wY ?_;refine bD (SE.fin (Γ':=[(0,Pt c),(5,.eq z8.1),(6,.rep Tl r4.1),(7,I y7.2.2.2.1)]) (Δ':=[.sl z8.1 22 .val (List.set (pD z8.2 0 y7.2.2.2.2) (Int.toNat e.1) l),.sl l 3 Ti (x++[u]),.obj c 60 (.agg (.pair (.rep Tl e.2.1) (.pair (I e.2.2.1) (.eq (.int .u64 e.2.2.2)))))]) [0,1,2] ⟨rfl,rfl,rfl,rfl,trivial⟩ rfl) ?_;exact λa w st=>⟨rfl,(l),(SE.fin (Γ':=[(0,Pt c),(5,.eq z8.1),(6,.rep Tl r4.1),(7,I y7.2.2.2.1)]) (Δ':=[.sl z8.1 22 .val (List.set (pD z8.2 0 y7.2.2.2.2) (Int.toNat e.1) l),.sl l 3 Ti (x++[u]),.obj c 60 (.agg (.pair (.rep Tl e.2.1) (.pair (I e.2.2.1) (.eq (.int .u64 e.2.2.2)))))]) [0,1,2] ⟨rfl,rfl,rfl,rfl,trivial⟩ rfl) a w st⟩
     .show JN _ _ [(0,Pt c),(5,.eq z8.1),(6,.rep Tl r4.1),(7,I y7.2.2.2.1)] ([.sl z8.1 22 .val (List.set (pD z8.2 0 y7.2.2.2.2) (Int.toNat e.1) l),.sl l 3 Ti (x++[u]),.obj c 60 (.agg (.pair (.rep Tl e.2.1) (.pair (I e.2.2.1) (.eq (.int .u64 e.2.2.2)))))]++(pr z8.2 0 y7.2.2.2.2).eraseIdx (Int.toNat e.1));refine bI 1 rfl ?_;refine bD (EM (pre:=[.obj c 60 (.agg (.pair (.rep Tl e.2.1) (.pair (I e.2.2.1) (.eq (.int .u64 e.2.2.2)))))]) (z:=z8) (i:=Int.toNat e.1) (Fp s).2) ?_;refine bn ?_;exact xb ((z8.1,Dz z8.2 (Int.toNat e.1) l),(e.2.1,e.2.2.1,e.2.2.2,List.set y7.2.2.2.2 (Int.toNat e.1) (x++[u]))) h (lW [.obj c 60 (.agg (.pair (.rep Tl e.2.1) (.pair (I e.2.2.1) (.eq (.int .u64 e.2.2.2)))))] (zq 22 (z8.1,Dz z8.2 (Int.toNat e.1) l) (List.set y7.2.2.2.2 (Int.toNat e.1) (x++[u]))) [0] ⟨rfl,rfl,rfl,rfl,trivial⟩ rfl)
   .refine ae (mq ?_);obtain⟨mc,M,h⟩:=aa h;refine jb (aU rfl M) ?_;refine aq (nl ?_);exact xb (y,(x9.1,x9.2.1,x9.2.2.1,mc,x9.2.2.2)) h (lW [.obj c 60 (.agg (.pair (.rep Tl x9.1) (.pair (I x9.2.1) (.eq (.int .u64 x9.2.2.1)))))] (zq 22 y x9.2.2.2) [0] ⟨rfl,rfl,rfl,rfl,trivial⟩ rfl)
  .refine xa ?_;exact xb (z8,(y7.1,y7.2.1,y7.2.2.1,y7.2.2.2.2)) h (lW [.obj c 60 (.agg (.pair (.rep Tl y7.1) (.pair (I y7.2.1) (.eq (.int .u64 y7.2.2.1)))))] (zq 22 z8 y7.2.2.2.2) [0] ⟨rfl,trivial⟩ rfl)
 .
  refine sr (mq ?_);refine aq (nt (aD ?_));refine bD (KR (pre:=[.obj c 60 (.agg (.pair (.rep Tl x5.1) (.pair (I x5.2.1) (.eq (.int .u64 x5.2.2.1)))))])) ?_;refine bD (fu [4,5,41] ⟨rfl,rfl,rfl,trivial⟩) ?_;cases h;exact aS () [_] 1 ⟨rfl,trivial⟩ rfl
def gd(k:Nat)(r2:Int×bV):Nat->((List Int)×Int×Int×(List (List (List Int)))×Int)->Option ((List (List (List Int)))×(List Int)×Int×Int)
 |0,_=>none
 |n+1,c=>
  if 0 < c.2.2.2.2 then(((((if 0 < (c.2.2.2.1.length:Int) then((fW k (c.1,c.2.1,c.2.2.1) 3).bind λl=>
  some (l.2.1,l.2.2.1,l.2.2.2,l.1)) else(some (c.1,c.2.1,c.2.2.1,false))):Option ((List Int)×Int×Int×Bool)).bind λe=>
  if e.2.2.2=true then((ck ((c.2.2.2.1.length:Int) - 1)).bind λx=>
  (aG c.2.2.2.1 x).bind λu=>
  (il k u).bind λr=>
  (bU (aR (length c.2.2.2.1+length [r]))).bind λ_=>
  some (e.1,e.2.1,e.2.2.1,c.2.2.2.1++[r])) else((kW k (e.1,e.2.1,e.2.2.1) r2.1).bind λh=>
  (bU (aR (length c.2.2.2.1+length [h.1]))).bind λ_=>
  some (h.2.1,h.2.2.1,h.2.2.2,c.2.2.2.1++[h.1]))):Option ((List Int)×Int×Int×(List (List (List Int))))).bind λj=>
  (ck (c.2.2.2.2 - 1)).bind λs=>
  gd k r2 n (j.1,j.2.1,j.2.2.1,j.2.2.2,s)) else(some (c.2.2.2.1,c.1,c.2.1,c.2.2.1))
def kX(k:Nat)(a0:bV)(a1:Int)(a2:Int):Option (ab×bV):=
 (gA k (a0.1,a0.2.1,a0.2.2) 1 a1).bind λr2=>
 (cy k (r2.2.1,r2.2.2.1,r2.2.2.2) 3).bind λr3=>
 (iK k (r3.2.1,r3.2.2.1,r3.2.2.2) [0,1,1,2,r3.1]).bind λr4=>
 (cy k (r4.2.1,r4.2.2.1,r4.2.2.2) 3).bind λr5=>
 (iK k (r5.2.1,r5.2.2.1,r5.2.2.2) [0,1,2,r5.1]).bind λr6=>
 (gA k (r6.2.1,r6.2.2.1,r6.2.2.2) 1 3).bind λr7=>
 (iK k (r7.2.1,r7.2.2.1,r7.2.2.2) [1,2,r7.1]).bind λr8=>
 (((gA k (r8.2.1,r8.2.2.1,r8.2.2.2) 1 a2).bind λe=>
 gd k r2 k (e.2.1,e.2.2.1,e.2.2.2,([]:(List (List (List Int)))),e.1)):Option ((List (List (List Int)))×(List Int)×Int×Int)).bind λc=>
 some ((r2.1,r4.1,r6.1,r8.1,c.1,[]),(c.2.1,c.2.2.1,c.2.2.2))
theorem wC(k:Nat)(a0:bV)(c:Nat)(a1:Int)(a2:Int)(r:ab×bV)(h:kX k a0 a1 a2=some r):
 c6 Tryz.prog 26 [Pt c,I a1,I a2] [.obj c 60 (.agg (.pair (.rep Tl a0.1) (.pair (I a0.2.1) (.eq (.int .u64 a0.2.2)))))] (λ_:Unit=>(bA [.agg (.pair (I r.1.1) (.pair (I r.1.2.1) (.pair (I r.1.2.2.1) (.pair (I r.1.2.2.2.1) (.pair (.rep (.slice (.slice Tl)) r.1.2.2.2.2.1) (.eq (.slice none 0 0)))))))],[.obj c 60 (.agg (.pair (.rep Tl r.2.1) (.pair (I r.2.2.1) (.eq (.int .u64 r.2.2.2)))))])):=by
 unfold kX at h
 replace h:=bb h
 refine c6.of 67 Tryz.func26 rfl Tryz.ntmps26 rfl λS w0=>?_
 refine sr ?_
 refine aW rfl rfl rfl (bq rfl sK vd) trivial λb1=>?_
 refine nt ?_
 refine sr ?_
 iterate 2 refine mq ?_
 obtain⟨r2,Xp,h⟩:=aa h
 have Xw:=jZ k (a0.1,a0.2.1,a0.2.2) c 1 a1 r2 Xp
 refine fr 1 ?_
 refine kc (av [.tmp 10,.const (.int .i64 (1)),.tmp 11] rfl rfl NT rfl Xw) ?_
 iterate 2 refine mq ?_
 obtain⟨r3,Xo,h⟩:=aa h
 have Xv:=cI k (r2.2.1,r2.2.2.1,r2.2.2.2) c 3 r3 Xo
 refine kb (av [.tmp 14,.const (.int .i64 (3))] rfl rfl J7 rfl Xv) ?_
 refine cG rfl (aP (t:=Ti) [(.const (.int .i64 (0)),_),(.const (.int .i64 (1)),_),(.const (.int .i64 (1)),_),(.const (.int .i64 (2)),_),(.tmp 15,_)] [0,1,1,2,r3.1] rfl rfl cZ (.cons rfl .int (.cons rfl .int (.cons rfl .int (.cons rfl .int (.cons rfl .int .nil))))) rfl rfl) ⟨rfl,rfl,rfl,rfl,rfl,trivial⟩ ?_
 obtain⟨r4,Xn,h⟩:=aa h
 have Xu:=mJ k (r3.2.1,r3.2.2.1,r3.2.2.2) c [0,1,1,2,r3.1] r4 Xn
 refine kb (av [.tmp 13,.tmp 16] rfl rfl QY rfl Xu) ?_
 iterate 2 refine mq ?_
 obtain⟨r5,Xm,h⟩:=aa h
 have Xt:=cI k (r4.2.1,r4.2.2.1,r4.2.2.2) c 3 r5 Xm
 refine kb (av [.tmp 19,.const (.int .i64 (3))] rfl rfl J7 rfl Xt) ?_
 refine cG rfl (aP (t:=Ti) [(.const (.int .i64 (0)),_),(.const (.int .i64 (1)),_),(.const (.int .i64 (2)),_),(.tmp 20,_)] [0,1,2,r5.1] rfl rfl cZ (.cons rfl .int (.cons rfl .int (.cons rfl .int (.cons rfl .int .nil)))) rfl rfl) ⟨rfl,rfl,rfl,rfl,trivial⟩ ?_
 obtain⟨r6,Xl,h⟩:=aa h
 have Xs:=mJ k (r5.2.1,r5.2.2.1,r5.2.2.2) c [0,1,2,r5.1] r6 Xl
 refine kb (av [.tmp 18,.tmp 21] rfl rfl QY rfl Xs) ?_
 iterate 2 refine mq ?_
 obtain⟨r7,Xk,h⟩:=aa h
 have Xr:=jZ k (r6.2.1,r6.2.2.1,r6.2.2.2) c 1 3 r7 Xk
 refine kc (av [.tmp 24,.const (.int .i64 (1)),.const (.int .i64 (3))] rfl rfl NT rfl Xr) ?_
 refine jc (aP (t:=Ti) [(.const (.int .i64 (1)),_),(.const (.int .i64 (2)),_),(.tmp 25,_)] [1,2,r7.1] rfl rfl cZ (.cons rfl .int (.cons rfl .int (.cons rfl .int .nil))) rfl rfl) ?_
 obtain⟨r8,Xj,h⟩:=aa h
 have Xq:=mJ k (r7.2.1,r7.2.2.1,r7.2.2.2) c [1,2,r7.1] r8 Xj
 refine kb (av [.tmp 23,.tmp 26] rfl rfl QY rfl Xq) ?_
 refine cG rfl (eU [(0,.tmp 12,_),(1,.tmp 17,_),(2,.tmp 22,_),(3,.tmp 27,_)] rfl SJ sK PE (kR ⟨rfl,rfl,rfl,rfl,trivial⟩) rfl) ⟨rfl,rfl,rfl,rfl,trivial⟩ ?_
 refine aW rfl rfl rfl (bq rfl sK vd) trivial λb9=>?_
 refine aO rfl rfl (aK rfl dq trivial rfl rfl) ⟨rfl,rfl,trivial⟩ ?_
 refine nt ?_
 refine aE (Z:=Value) (α:=(List (List (List Int)))×(List Int)×Int×Int) (λJ y=>[(6,Pt b1),(7,Pt b9)]) (λJ y=>[.obj b1 28 (.agg (.pair (I 0) (.pair (I 0) (.pair (I 0) (.pair (I 0) (.pair (.eq (.slice none 0 0)) (.eq (.slice none 0 0)))))))),.obj b9 28 (.agg (.pair (I r2.1) (.pair (I r4.1) (.pair (I r6.1) (.pair (I r8.1) (.pair (.eq J) (.eq (.slice none 0 0)))))))),.sl J 29 (.slice Tl) y.1,.obj c 60 (.agg (.pair (.rep Tl y.2.1) (.pair (I y.2.2.1) (.eq (.int .u64 y.2.2.2)))))]) h (λK h=>?_) (λJ y h=>?_)
 .
  refine sr ?_;iterate 2 refine mq ?_
  obtain⟨F,zz,h⟩:=aa h;refine fr 1 ?_;refine kc (av [.tmp 29,.const (.int .i64 (1)),.tmp 30] rfl rfl NT rfl (jZ k (r8.2.1,r8.2.2.1,r8.2.2.2) c 1 a2 F zz)) ?_;refine aq (nt (ah ?_));refine fS (SE.nil 29 (.slice Tl)) ?_;refine aC (λu e=>[(0,Pt c),(6,Pt b1),(7,Pt b9),(8,I e.2.2.2.2)]) (λu e=>[.obj c 60 (.agg (.pair (.rep Tl e.1) (.pair (I e.2.1) (.eq (.int .u64 e.2.2.1))))),.obj b1 28 (.agg (.pair (I 0) (.pair (I 0) (.pair (I 0) (.pair (I 0) (.pair (.eq (.slice none 0 0)) (.eq (.slice none 0 0)))))))),.obj b9 28 (.agg (.pair (I r2.1) (.pair (I r4.1) (.pair (I r6.1) (.pair (I r8.1) (.pair (.eq u) (.eq (.slice none 0 0)))))))),.sl u 29 (.slice Tl) e.2.2.2.1]) (gd k r2) k (.slice none 0 0) (F.2.1,F.2.2.1,F.2.2.2,([]:(List (List (List Int)))),F.1) (λ_=>rfl) h (SE.fin [1,3,2,0] ⟨rfl,rfl,rfl,rfl,trivial⟩ rfl) (λn u e h=>?_);unfold gd at h;refine ai (sr (mq ?_));refine jb (jE rfl) ?_;refine nt (ci h (λh=>?_) (λh=>?_))
  .refine sk (aE (Z:=Value) (α:=(List Int)×Int×Int×(List (List (List Int)))) (λD l=>[(0,Pt c),(6,Pt b1),(7,Pt b9),(8,I e.2.2.2.2)]) (λD l=>[.obj c 60 (.agg (.pair (.rep Tl l.1) (.pair (I l.2.1) (.eq (.int .u64 l.2.2.1))))),.obj b1 28 (.agg (.pair (I 0) (.pair (I 0) (.pair (I 0) (.pair (I 0) (.pair (.eq (.slice none 0 0)) (.eq (.slice none 0 0)))))))),.obj b9 28 (.agg (.pair (I r2.1) (.pair (I r4.1) (.pair (I r6.1) (.pair (I r8.1) (.pair (.eq D) (.eq (.slice none 0 0)))))))),.sl D 29 (.slice Tl) l.2.2.2]) h (λK h=>?_) (λD l h=>?_))
   .refine ah (ai (sr (fl bL ?_)));refine fr 2 ?_;refine lo eL ?_;refine fr 3 ?_;refine ka (oc rfl rfl oC) ?_;refine aq (nt ?_);refine aE (Z:=Unit) (α:=(List Int)×Int×Int×Bool) (λQ j=>[(0,Pt c),(6,Pt b1),(7,Pt b9),(8,I e.2.2.2.2),(9,I (e.2.2.2.1.length:Int)),(44,.eq (.bool j.2.2.2))]) (λQ j=>[.obj c 60 (.agg (.pair (.rep Tl j.1) (.pair (I j.2.1) (.eq (.int .u64 j.2.2.1))))),.obj b1 28 (.agg (.pair (I 0) (.pair (I 0) (.pair (I 0) (.pair (I 0) (.pair (.eq (.slice none 0 0)) (.eq (.slice none 0 0)))))))),.obj b9 28 (.agg (.pair (I r2.1) (.pair (I r4.1) (.pair (I r6.1) (.pair (I r8.1) (.pair (.eq u) (.eq (.slice none 0 0)))))))),.sl u 29 (.slice Tl) e.2.2.2.1]) h (λK h=>?_) (λQ j h=>?_)
    .refine ae (mq ?_);refine jb (jE rfl) ?_;refine mq ?_;refine bX (s:=41) rfl (λhb=>?_) (λhb=>?_)
     .replace h:=eh (va hb) h;refine gm ?_;obtain⟨E,qt,h⟩:=aa h;refine fr 2 ?_;refine eX rfl rfl rfl rfl rfl rfl (av [.tmp 42,.const (.int .i64 (3))] rfl rfl QX rfl (kD k (e.1,e.2.1,e.2.2.1) c 3 E qt)) ⟨rfl,rfl,trivial⟩ ?_;refine pt (nl ?_);exact jz ((),(E.2.1,E.2.2.1,E.2.2.2,E.1)) h [0,3,2,1]
     .replace h:=cK (vb hb) h;iterate 2 refine gn ?_
      refine pf (nl ?_);exact jz ((),(e.1,e.2.1,e.2.2.1,false)) h [2,3,1,0]
    .refine cv h (λh=>?_) (λh=>?_)
     .refine ai (bB ?_);refine da (au rfl bL) ?_;refine ea 2 (ao rfl eL jI rfl) ?_;refine da (au rfl bL) ?_;refine ea 2 (ao rfl eL jI rfl) ?_;refine dm ?_;obtain⟨Xg,X,h⟩:=aa h;refine db (eJ rfl X) ?_;obtain⟨Xf,M,h⟩:=aa h;refine eb 3 (cQ (t:=(.slice Tl)) rfl oC iR M) ?_;refine ea 3 (ij (i:=Int.toNat Xg) (off:=0) rfl iR (λ_=>rfl) rfl (dR M).2.2 rfl) ?_;obtain⟨O,mw,h⟩:=aa h;refine da (Ai (av [.tmp 52] rfl rfl T8 rfl (om k Xf O mw))) ?_;refine da (aP (t:=(.slice Tl)) [(.tmp 53,_)] [O] rfl rfl vL (.cons rfl .rep .nil) rfl rfl) ?_;refine df cY ?_;obtain⟨Xy,gw,h⟩:=aa h;refine fr 3 ?_;refine cC rfl rfl rfl (bf rfl rfl vL (ap gw)) ⟨rfl,rfl,trivial⟩ λXi=>?_;refine fl bL ?_;refine nJ λo25=>?_;refine fr 3 ?_;refine aO rfl rfl (aK rfl eL o25 rfl rfl) ⟨rfl,rfl,trivial⟩ ?_;refine nt (eQ (bp (cM (ax ?_))));exact jz (Xi,(j.1,j.2.1,j.2.2.1,e.2.2.2.1++[O])) h [2,3,0,1]
     .refine sk (bB ?_);refine da (au rfl bL) ?_;refine ea 2 (ao rfl eL jI rfl) ?_;refine dm ?_;refine da (au rfl fq) ?_;refine ea 2 (ao rfl bR jI rfl) ?_;obtain⟨x,mc,h⟩:=aa h;refine Gq 0 rfl rfl rfl rfl (av [.tmp 59,.tmp 61] rfl rfl V6 rfl (wA k (j.1,j.2.1,j.2.2.1) c r2.1 x mc)) ⟨rfl,rfl,trivial⟩ ?_;refine da (aP (t:=(.slice Tl)) [(.tmp 62,_)] [x.1] rfl rfl vL (.cons rfl .rep .nil) rfl rfl) ?_;refine Gs (Δ':=[.obj b1 28 (.agg (.pair (I 0) (.pair (I 0) (.pair (I 0) (.pair (I 0) (.pair (.eq (.slice none 0 0)) (.eq (.slice none 0 0)))))))),.obj b9 28 (.agg (.pair (I r2.1) (.pair (I r4.1) (.pair (I r6.1) (.pair (I r8.1) (.pair (.eq u) (.eq (.slice none 0 0)))))))),.sl u 29 (.slice Tl) e.2.2.2.1,.obj c 60 (.agg (.pair (.rep Tl x.2.1) (.pair (I x.2.2.1) (.eq (.int .u64 x.2.2.2)))))]) (by kernel_rfl) cY (by kernel_rfl) ?_;obtain⟨Xx,Y,h⟩:=aa h;refine fr 2 ?_;refine cC rfl rfl rfl (bf rfl rfl vL (ap Y)) ⟨rfl,rfl,trivial⟩ λXh=>?_;refine fl bL ?_;refine nJ λo29=>?_;refine fr 2 ?_;refine aO rfl rfl (aK rfl eL o29 rfl rfl) ⟨rfl,rfl,trivial⟩ ?_;refine aH (bn ?_);exact jz (Xh,(x.2.1,x.2.2.1,x.2.2.2,e.2.2.2.1++[x.1])) h [3,2,0,1]
   .refine ae (mq ?_);obtain⟨Xe,U,h⟩:=aa h;refine jb (eJ rfl U) ?_;refine aq (nl ?_);exact jz (D,(l.1,l.2.1,l.2.2.1,l.2.2.2,Xe)) h [0,1,2,3]
  .refine xa ?_;exact jz (u,(e.2.2.2.1,e.1,e.2.1,e.2.2.1)) h [1,2,3,0]
 .
  refine sr (fr 1 ?_);refine fr 2 ?_;refine d4 (iN (off:=4) [] trivial rfl rfl) ?_;refine lo dq ?_;refine fr 1 ?_;refine aO rfl rfl (aK rfl dq trivial rfl rfl) ⟨rfl,rfl,trivial⟩ ?_;refine nt (aD (bD (SE.fin (Γ':=[(6,_)]) [2,0,1] ⟨rfl,trivial⟩ rfl) ?_));cases h;exact aS () [.agg (.pair (I r2.1) (.pair (I r4.1) (.pair (I r6.1) (.pair (I r8.1) (.pair (.rep (.slice (.slice Tl)) y.1) (.eq (.slice none 0 0)))))))] 1 ⟨⟨_,_,_,_,_,rfl,(.tail _ (.head _)),dq,(pu),rfl⟩,trivial⟩ rfl
def fM(k:Nat)(a0:ab)(a1:(List Int)):Nat->(Int×Int)->Option (Except ((Option ab)×Int×Int) Int)
 |0,_=>none
 |n+1,y5=>
  if y5.2 < (a1.length:Int) then((aG a1 y5.2).bind λx7=>
  (ck (a0.1 - 1)).bind λx8=>
  (ec k x7 0 x8).bind λr9=>
  if¬(r9=true) then(some (.error (none,0,3))) else(((if 0 < y5.2 then((ck (y5.2 - 1)).bind λh=>
  (aG a1 h).bind λe=>
  some (decide (x7≤e))) else(some false)):Option (Bool)).bind λj=>
  if j=true then(some (.error (none,0,5))) else((gU k y5.1 x7).bind λl=>
  (ck (y5.2+1)).bind λc=>
  fM k a0 a1 n (l,c)))) else(some (.ok y5.1))
def dW(k:Nat)(a0:ab)(h:Int)(e:(List Int)):Nat->Int->Option (Except ((Option ab)×Int×Int) Unit)
 |0,_=>none
 |n+1,c=>
  if c < (e.length:Int) then((aG e c).bind λu=>
  (ck (a0.1 - 1)).bind λs=>
  (ck ((a0.2.2.2.2.1.length:Int) - 1)).bind λr=>
  (aG [s,r,(a0.2.2.2.2.1.length:Int)] h).bind λl=>
  (ec k u 0 l).bind λx=>
  if¬(x=true) then(some (.error (none,0,3))) else((ck (c+1)).bind λj=>
  dW k a0 h e n j)) else(some (.ok ()))
def de(k:Nat)(a0:ab)(a2:(List Int))(a3:(List Int))(a4:(List Int)):Nat->Int->Option (Except ((Option ab)×Int×Int) Unit)
 |0,_=>none
 |n+1,c=>
  if c < ([a2,a3,a4].length:Int) then(bE (α:=Unit) ((aG [a2,a3,a4] c).bind λj=>
  dW k a0 c j k 0) (λe=>some (.error e)) λ_=>
  (ck (c+1)).bind λh=>
  de k a0 a2 a3 a4 n h) else(some (.ok ()))
def kU(k:Nat)(a0:ab)(a1:(List Int))(a2:(List Int))(a3:(List Int))(a4:(List Int)):Option ((Option ab)×Int×Int):=
 (og k a0).bind λr2=>
 if¬(r2=0) then(some (none,0,r2)) else(bE (α:=Int) (fM k a0 a1 k (0,0)) (some) λx3=>
 bE (α:=Unit) (de k a0 a2 a3 a4 k 0) (some) λ_=>
 (jW k a0).bind λe=>
 gW e (none) (λc=>(fp k c).bind λh=>
 some (some c,x3,0)))
theorem nh(k:Nat)(a0:ab)(a1:(List Int))(a2:(List Int))(a3:(List Int))(a4:(List Int))(r:(Option ab)×Int×Int)(h:kU k a0 a1 a2 a3 a4=some r):
 cD (eP Tryz.prog) 31 [.rep ak a0,.rep Tl a1,.rep Tl a2,.rep Tl a3,.rep Tl a4] [] (λz:Nat×Nat=>(bA [MJ r.1 z.1,.eq (.int .u8 r.2.1),I r.2.2],MI r.1 λq=>sL q z.1 z.2 k)):=by
 unfold kU at h
 replace h:=bb h
 refine cD.of 95 Tryz.func31 rfl Tryz.ntmps31 rfl λS w0=>?_
 refine sr ?_
 refine bx λb1=>?_
 refine cq ?_
 refine cq ?_
 refine cq ?_
 refine nt ?_
 refine ai ?_
 refine sr ?_
 refine lo dq ?_
 obtain⟨r2,Xz,h⟩:=aa h
 have XA:=zB k a0 r2 Xz
 refine ja (av [.tmp 22] rfl rfl V4 rfl XA) ?_
 refine aq ?_
 refine nt ?_
 refine sr ?_
 refine mq ?_
 refine jb (eT rfl) ?_
 refine nt ?_
 refine cn h (λh=>?_) (λh=>?_)
 .
  refine sr (mq ?_);refine cq ?_;refine cq ?_;refine aq (nt (rx ?_));cases h;exact aS (0,0) [.eq (.pointer none),_,_] 0 ⟨rfl,rfl,rfl,trivial⟩ rfl
 .
  refine sk (sr (cq (nt ?_)));refine cu (Z:=Unit) (α:=Int) (λz4 x3=>[(2,.rep Tl a2),(3,.rep Tl a3),(4,.rep Tl a4),(5,Pt b1),(14,.eq (.int .u8 x3))]) (λz4 x3=>[.obj b1 28 (.rep ak a0)]) (λe=>e=r) h (λe h=>Option.some.inj h) (λK hR h=>?_) (λz4 x3 h=>?_)
  .refine sr (mq ?_);refine ol gi ?_;refine fZ rfl ?_;refine nt (ah (aC (λz6 y5=>[(1,.rep Tl a1),(2,.rep Tl a2),(3,.rep Tl a3),(4,.rep Tl a4),(5,Pt b1),(14,.eq (.int .u8 y5.1)),(27,.rep Tl a1),(28,I (a1.length:Int)),(29,I y5.2)]) (λz6 y5=>[.obj b1 28 (.rep ak a0)]) (fM k a0 a1) k () (0,0) (λ_=>rfl) h (SE.fin [0] ⟨rfl,rfl,rfl,rfl,rfl,rfl,rfl,rfl,rfl,trivial⟩ rfl) (λn z6 y5 h=>?_)));unfold fM at h;refine sr (jb (bh rfl) ?_);refine nt (ai (ci h (λh=>?_) (λh=>?_)))
   .refine sk (ai (ah (sr (mq ?_))));obtain⟨x7,Xx,h⟩:=aa h;refine jb (aA (t:=Ti) rfl gi bR Xx) ?_;refine ja (am (t:=Ti) rfl bR rfl) ?_;refine aq ?_;refine aq (nt (ai (sr ?_)));refine mq ?_;refine fl fq ?_;refine lo bR ?_;obtain⟨x8,Xw,h⟩:=aa h;refine jb (eJ rfl Xw) ?_;obtain⟨r9,Xy,h⟩:=aa h;refine jc (av [.tmp 34,.const (.int .i64 (0)),.tmp 37] rfl rfl zT rfl (eE k x7 0 x8 r9 Xy)) ?_;refine ja (fo rfl) ?_;refine nt (cw h (λh=>?_) (λh=>?_))
    .refine sr (cq ?_);refine cq ?_;refine cq (nt (rx (br (aX (be ?_)))));obtain rfl:=hR _ h;exact aS (0,0) [.eq (.pointer none),_,_] 0 ⟨rfl,rfl,rfl,trivial⟩ rfl
    .refine sk (ai (aE (Z:=Unit) (α:=Bool) (λO y=>[(1,.rep Tl a1),(2,.rep Tl a2),(3,.rep Tl a3),(4,.rep Tl a4),(5,Pt b1),(14,.eq (.int .u8 y5.1)),(16,I x7),(27,.rep Tl a1),(28,I (a1.length:Int)),(29,I y5.2),(50,.eq (.bool y))]) (λO y=>[.obj b1 28 (.rep ak a0)]) h (λK h=>?_) (λO y h=>?_)))
     .refine ae (mq ?_);refine jb (jE rfl) ?_;refine mq ?_;refine bX (s:=42) rfl (λhb=>?_) (λhb=>?_)
      .replace h:=eh (va hb) h;refine gm ?_;refine gm ?_;refine gm ?_;obtain⟨XD,Xi,h⟩:=aa h;refine gb (eJ rfl Xi) ?_;obtain⟨Xs,Xh,h⟩:=aa h;refine gb (aA (t:=Ti) rfl gi bR Xh) ?_;refine ga (am (t:=Ti) rfl bR rfl) ?_;refine gb (yo rfl) ?_;refine pt (nl ?_);exact jz ((),decide (x7≤Xs)) h [0]
      .replace h:=cK (vb hb) h;iterate 7 refine gn ?_
       refine pf (nl ?_);exact jz ((),false) h [0]
     .refine cv h (λh=>?_) (λh=>?_)
      .refine sr (cq ?_);refine cq ?_;refine cq (nt (rx (br (aX (be ?_)))));obtain rfl:=hR _ h;exact aS (0,0) [.eq (.pointer none),_,_] 0 ⟨rfl,rfl,rfl,trivial⟩ rfl
      .refine sk (ae ?_);iterate 2 refine mq ?_
       obtain⟨Y,Xm,h⟩:=aa h;refine jb (av [.tmp 51,.tmp 52] rfl rfl QW rfl (lB k y5.1 x7 Y Xm)) ?_;refine aq (aH (aJ (tn (ae ?_))));obtain⟨Xr,Xg,h⟩:=aa h;refine jb (aU rfl Xg) ?_;refine mq (nl ?_);exact jz ((),(Y,Xr)) h [0]
   .refine xa ?_;exact jz ((),y5.1) h [0]
  .refine cu (Z:=Unit) (α:=Unit) (λM U=>[(5,Pt b1),(14,.eq (.int .u8 x3))]) (λM U=>[.obj b1 28 (.rep ak a0)]) (λe=>e=r) h (λe h=>Option.some.inj h) (λK hR h=>?_) (λM U h=>?_)
   .refine sr ?_;iterate 3 refine mq ?_
    refine jc (aP (t:=Tl) [(.tmp 55,_),(.tmp 56,_),(.tmp 57,_)] [a2,a3,a4] rfl rfl kj (.cons rfl .rep (.cons rfl .rep (.cons rfl .rep .nil))) rfl rfl) ?_;refine ol lF ?_;refine fZ rfl ?_;refine nt (ah (aC (λJ c=>[(5,Pt b1),(14,.eq (.int .u8 x3)),(58,.rep (.slice Tl) [a2,a3,a4]),(59,I ([a2,a3,a4].length:Int)),(60,I c)]) (λJ c=>[.obj b1 28 (.rep ak a0)]) (de k a0 a2 a3 a4) k () 0 (λ_=>rfl) h (SE.fin [0] ⟨rfl,rfl,rfl,rfl,rfl,trivial⟩ rfl) (λn J c h=>?_)));unfold de at h;refine sr (jb (bh rfl) ?_);refine nt (ai (ci h (λh=>?_) (λh=>?_)))
    .refine sk (cu (Z:=Unit) (α:=Unit) (λE Q=>[(5,Pt b1),(14,.eq (.int .u8 x3)),(58,.rep (.slice Tl) [a2,a3,a4]),(59,I ([a2,a3,a4].length:Int)),(60,I c)]) (λE Q=>[.obj b1 28 (.rep ak a0)]) (λe=>e=r) h (λe h=>hR e h) (λK hR h=>?_) (λE Q h=>?_))
     .refine ah (sr (mq ?_));obtain⟨x,Xf,h⟩:=aa h;refine jb (aA (t:=Tl) rfl lF dO Xf) ?_;refine ja (am (t:=Tl) rfl dO rfl) ?_;refine aq ?_;refine aq (nt (sr ?_));refine mq ?_;refine ol gi ?_;refine fZ rfl ?_;refine nt (ah (aC (λD u=>[(5,Pt b1),(14,.eq (.int .u8 x3)),(17,I c),(58,.rep (.slice Tl) [a2,a3,a4]),(59,I ([a2,a3,a4].length:Int)),(60,I c),(65,.rep Tl x),(66,I (x.length:Int)),(67,I u)]) (λD u=>[.obj b1 28 (.rep ak a0)]) (dW k a0 c x) k () 0 (λ_=>rfl) h (SE.fin [0] ⟨rfl,rfl,rfl,rfl,rfl,rfl,rfl,rfl,rfl,trivial⟩ rfl) (λn D u h=>?_)));unfold dW at h;refine sr (jb (bh rfl) ?_);refine nt (ai (ci h (λh=>?_) (λh=>?_)))
      .refine sk (ai (ah (sr ?_)));obtain⟨Xq,Xe,h⟩:=aa h;refine jb (aA (t:=Ti) rfl gi bR Xe) ?_;refine ja (am (t:=Ti) rfl bR rfl) ?_;refine aq (nt (sr ?_));refine mq ?_;refine fl fq ?_;refine lo bR ?_;obtain⟨XC,zz,h⟩:=aa h;refine jb (eJ rfl zz) ?_;refine fl bL ?_;refine lo eL ?_;refine ol oC ?_;obtain⟨XB,qt,h⟩:=aa h;refine jb (eJ rfl qt) ?_;refine fl bL ?_;refine lo eL ?_;refine ol oC ?_;refine jc (GU rfl UB bR RX) ?_;refine mq ?_;obtain⟨Xp,mw,h⟩:=aa h;refine jb (pU (t:=Ti) rfl UB bR rfl rfl (λ_=>rfl) mw) ?_;obtain⟨Xu,Xl,h⟩:=aa h;refine jc (av [.tmp 71,.const (.int .i64 (0)),.tmp 84] rfl rfl zT rfl (eE k Xq 0 Xp Xu Xl)) ?_;refine ja (fo rfl) ?_;refine nt (cw h (λh=>?_) (λh=>?_))
       .refine sr (cq ?_);refine cq ?_;refine cq (nt (aD (br (aX (br (aX (be ?_)))))));obtain rfl:=hR _ h;exact aS (0,0) [.eq (.pointer none),_,_] 0 ⟨rfl,rfl,rfl,trivial⟩ rfl
       .refine bg (aJ (tn (ae ?_)));obtain⟨Xo,mc,h⟩:=aa h;refine jb (aU rfl mc) ?_;refine mq (nl ?_);exact jz ((),Xo) h [0]
      .refine eQ (bp (bp (cM (bn ?_))));exact jz ((),()) h [0]
     .refine ae ?_;obtain⟨Xn,gw,h⟩:=aa h;refine jb (aU rfl gw) ?_;refine mq (nl ?_);exact jz ((),Xn) h [0]
    .refine xa ?_;exact jz ((),()) h [0]
   .refine sr (lo dq ?_);obtain⟨X,Xk,h⟩:=aa h;have j:=pm k a0 X Xk;rcases hr:X with _ |Xv
    .rw [hr] at h j;replace h:=xO h;refine aV (Δ:=[]) (F:=_) (λ_ _ _=>aj rfl _) rfl rfl (av [.tmp 89] rfl rfl NS rfl j) ⟨rfl,trivial⟩ λ_=>?_;cases h
    .rw [hr] at h j;replace h:=xN h;refine aV (Δ:=[]) (F:=_) (λ_ _ _=>aj rfl _) rfl rfl (av [.tmp 89] rfl rfl NS rfl j) ⟨rfl,trivial⟩ λl=>?_;refine aq (nt (sr ?_));refine mq ?_;obtain⟨Xt,Xj,h⟩:=aa h;refine fr 1 ?_;refine fr 1 ?_;refine aV (Δ:=[_,_]) (F:=_) (λ_ _ _=>aj rfl _) rfl rfl (bv [.tmp 91] rfl rfl V3 rfl (rU k Xv l.1 l.2 Xt Xj)) ⟨rfl,trivial⟩ λ_=>?_;refine nt (sr ?_);iterate 2 refine mq ?_
     refine aq ?_;refine aq ?_;refine cq (nt (aD ?_));cases h;exact aS (l.1,l.2) [.eq (.pointer (some ⟨l.1,0,none⟩)),_,_] 2 ⟨rfl,rfl,rfl,trivial⟩ rfl
def kN(k:Nat)(a0:ab)(r5:(List (List Int)))(x9:Int):Nat->((List (List Int))×Int)->Option (List (List Int))
 |0,_=>none
 |n+1,c=>
  if c.2 < x9 then((aG r5 c.2).bind λj=>
  (bU (0≤a0.1/\a0.1≤5)).bind λ_=>
  (nC k (List.take (Int.toNat a0.1) j)).bind λe=>
  (bU (aR (length c.1+length [e]))).bind λ_=>
  (ck (c.2+1)).bind λh=>
  kN k a0 r5 x9 n (c.1++[e],h)) else(some c.1)
def rY(k:Nat)(a0:ab)(a1:(List Int)):Option ((List (List Int))×Int):=
 (kU k a0 a1 ([]:(List Int)) ([]:(List Int)) ([]:(List Int))).bind λr2=>
 gW r2.1 (if¬(r2.2.2=0) then(some (([]:(List (List Int))),r2.2.2)) else(none)) (λq3=>if¬(r2.2.2=0) then(some (([]:(List (List Int))),r2.2.2)) else((mX k q3 r2.2.1).bind λr5=>
 (((ck ((a0.2.2.2.2.1.length:Int)+1)).bind λx9=>
 kN k a0 r5 x9 k (([]:(List (List Int))),0)):Option ((List (List Int)))).bind λx7=>
 some (x7,0)))
theorem xJ(k:Nat)(a0:ab)(a1:(List Int))(r:(List (List Int))×Int)(h:rY k a0 a1=some r):
 cD (eP Tryz.prog) 28 [.rep ak a0,.rep Tl a1] [] (λ_:Unit=>(bA [.rep (.slice Tl) r.1,I r.2],[])):=by
 unfold rY at h
 replace h:=bb h
 refine cD.of 43 Tryz.func28 rfl Tryz.ntmps28 rfl λS w0=>?_
 refine sr ?_
 refine bx λb1=>?_
 refine cq ?_
 refine cq ?_
 refine nt ?_
 refine sr ?_
 refine lo dq ?_
 refine mq ?_
 obtain⟨r2,X,h⟩:=aa h
 have j:=nh k a0 a1 ([]:(List Int)) ([]:(List Int)) ([]:(List Int)) r2 X
 rcases hr:r2.1 with _ |q3
 .
  rw [hr] at h j;replace h:=xO h;refine aV (Δ:=[]) (F:=_) (λ_ _ _=>aj rfl _) rfl rfl (bW (N:=[(.tmp 13,.rep ak a0),(.tmp 14,.rep Tl a1),(.const (.slice none 0 0),.eq (.slice none 0 0)),(.const (.slice none 0 0),.eq (.slice none 0 0)),(.const (.slice none 0 0),.eq (.slice none 0 0))]) (bv [.tmp 13,.tmp 14,.const (.slice none 0 0),.const (.slice none 0 0),.const (.slice none 0 0)] rfl rfl Cb rfl j) λ_ _ _ hn=>⟨hn.1,hn.2.1,(aN (t:=Tl) (x:=([]:(List Int))) .nil rfl rfl hn.2.2.1),(aN (t:=Tl) (x:=([]:(List Int))) .nil rfl rfl hn.2.2.2.1),(aN (t:=Tl) (x:=([]:(List Int))) .nil rfl rfl hn.2.2.2.2.1),trivial⟩) ⟨rfl,rfl,rfl,rfl,rfl,trivial⟩ λ_=>?_;refine mq ?_;refine xr ?_;refine xr ?_;refine xr ?_;refine aq ?_;refine aq ?_;refine aq (nt (ai (sr ?_)));refine mq ?_;refine jb (eT rfl) ?_;refine nt (cn h (λh=>?_) (λh=>?_))
  .refine sr (mq ?_);refine cq ?_;refine aq (nt (rx ?_));refine bD (ek (t:=(.slice Tl)) (x:=([]:(List (List Int)))) 4 rfl .nil rfl rfl) ?_;cases h;exact rb
  .cases h
 .
  rw [hr] at h j;replace h:=xN h;refine aV (Δ:=[]) (F:=_) (λ_ _ _=>aj rfl _) rfl rfl (bW (N:=[(.tmp 13,.rep ak a0),(.tmp 14,.rep Tl a1),(.const (.slice none 0 0),.eq (.slice none 0 0)),(.const (.slice none 0 0),.eq (.slice none 0 0)),(.const (.slice none 0 0),.eq (.slice none 0 0))]) (bv [.tmp 13,.tmp 14,.const (.slice none 0 0),.const (.slice none 0 0),.const (.slice none 0 0)] rfl rfl Cb rfl j) λ_ _ _ hn=>⟨hn.1,hn.2.1,(aN (t:=Tl) (x:=([]:(List Int))) .nil rfl rfl hn.2.2.1),(aN (t:=Tl) (x:=([]:(List Int))) .nil rfl rfl hn.2.2.2.1),(aN (t:=Tl) (x:=([]:(List Int))) .nil rfl rfl hn.2.2.2.2.1),trivial⟩) ⟨rfl,rfl,rfl,rfl,rfl,trivial⟩ λz4=>?_;refine mq ?_;refine xr ?_;refine xr ?_;refine xr ?_;refine aq ?_;refine aq ?_;refine aq (nt (ai (sr ?_)));refine mq ?_;refine jb (eT rfl) ?_;refine nt (cn h (λh=>?_) (λh=>?_))
  .refine sr (mq ?_);refine cq ?_;refine aq (nt (rx ?_));refine bD (ek (t:=(.slice Tl)) (x:=([]:(List (List Int)))) 4 rfl .nil rfl rfl) ?_;cases h;exact rb
  .refine sk (sr (cq (nt (sr ?_))));iterate 2 refine mq ?_
   obtain⟨r5,U,h⟩:=aa h;refine fr 1 ?_;refine fr 1 ?_;refine aV (Δ:=[_,_]) (F:=_) (λ_ _ _=>aj rfl _) rfl rfl (bv [.tmp 22,.tmp 23] rfl rfl G7 rfl (qR k q3 z4.1 z4.2 r2.2.1 r5 U)) ⟨rfl,rfl,trivial⟩ λ_=>?_;refine aW rfl rfl rfl (bq rfl Ax CP) trivial λb6=>?_;refine aO rfl rfl (aK rfl AV rfl rfl rfl) ⟨rfl,rfl,trivial⟩ ?_;refine d4 (kG (t:=(.arr 7 Tr)) (x:=r5) [10] .rep ⟨rfl,trivial⟩) ?_;refine nt (aE (Z:=Value) (α:=(List (List Int))) (λz8 x7=>[(9,.eq z8)]) (λz8 x7=>[.sl z8 22 Tl x7,.inv z4.2 (cF k q3)]) h (λK h=>?_) (λz8 x7 h=>?_))
   .refine sr (fl bL ?_);refine fr 2 ?_;refine lo eL ?_;refine ol oC ?_;obtain⟨x9,Q,h⟩:=aa h;refine jb (aU rfl Q) ?_;refine fZ rfl ?_;refine nt (ah (fS (SE.nil 22 Tl) ?_));refine aC (λe c=>[(2,Pt b1),(9,.eq e),(10,.at (.arr 7 Tr) r5),(28,I x9),(29,I c.2)]) (λe c=>[.obj b1 28 (.rep ak a0),.sl e 22 Tl c.1,.inv z4.2 (cF k q3)]) (kN k a0 r5 x9) k (.slice none 0 0) (([]:(List (List Int))),0) (λ_=>rfl) h (SE.fin [1,0,3] ⟨rfl,rfl,rfl,rfl,rfl,trivial⟩ rfl) (λn e c h=>?_);unfold kN at h;refine sr (jb (bh rfl) ?_);refine nt (ai (ci h (λh=>?_) (λh=>?_)))
    .refine sk (ai (ah (sr (mq ?_))));refine aq (nt ?_);refine bB ?_;refine dm ?_;refine dm ?_;obtain⟨M,y,h⟩:=aa h;refine db (cN (t:=Tr) rfl xR fY y) ?_;refine da (au rfl fq) ?_;refine ea 0 (ao rfl bR jI rfl) ?_;obtain⟨gw,l,h⟩:=aa h;refine db (xz (t:=Ti) rfl sG bR (ap l).1 (ap l).2) ?_;obtain⟨s,E,h⟩:=aa h;refine da (Ai (av [.tmp 37] rfl rfl V5 rfl (tG k (List.take (Int.toNat a0.1) M) s E))) ?_;refine da (aP (t:=Tl) [(.tmp 38,_)] [s] rfl rfl kj (.cons rfl .rep .nil) rfl rfl) ?_;refine df cY ?_;obtain⟨Y,D,h⟩:=aa h;refine fr 1 ?_;refine cC rfl rfl rfl (bf rfl rfl kj (ap D)) ⟨rfl,rfl,trivial⟩ λO=>?_;refine aq (aH (aJ (tn (ae ?_))));obtain⟨J,u,h⟩:=aa h;refine jb (aU rfl u) ?_;refine mq (nl ?_);exact jz (O,(c.1++[s],J)) h [1,0,2]
    .refine xa ?_;exact jz (e,c.1) h [1,2]
   .refine sr (mq ?_);refine aq ?_;refine cq (nt (aD ?_));refine bD (fu [4,9,42] ⟨rfl,rfl,rfl,trivial⟩) ?_;cases h;exact rb
def cR(k:Nat)(a0:ab)(a2:Int)(r1:(List (List Int))):Nat->Int->Option Bool
 |0,_=>none
 |n+1,y3=>
  if y3 < (a0.2.2.2.2.2.length:Int) then((aG a0.2.2.2.2.2 y3).bind λx5=>
  (((fa k a2 y3).bind λr9=>
  if¬(r9=true) then((aG r1 x5.2.1).bind λh=>
  (aG h x5.1).bind λe=>
  some (!decide ((decide (a0.2.2.1≤e))=x5.2.2))) else(some false)):Option (Bool)).bind λx7=>
  if x7=true then(some false) else((ck (y3+1)).bind λc=>
  cR k a0 a2 r1 n c)) else(some true)
def iq(k:Nat)(a0:ab)(a1:Int)(a2:Int):Option Bool:=
 (mX k a0 a1).bind λr1=>
 cR k a0 a2 r1 k 0
theorem pZ(k:Nat)(a0:ab)(c z_a0:Nat)(a1:Int)(a2:Int)(r:Bool)(h:iq k a0 a1 a2=some r):
 ER (eP Tryz.prog) 99 [Pt c,.eq (.int .u8 a1),.eq (.int .u8 a2)] [.obj c 124 (bi a0 z_a0),.inv z_a0 (cF k a0)] (.iface 154 (.agg #[])) r:=by
 unfold iq at h
 replace h:=bb h
 refine ER.of 48 Tryz.func99 rfl Tryz.ntmps99 rfl λS w0=>?_
 refine sr ?_
 iterate 2 refine mq ?_
 obtain⟨r1,E,h⟩:=aa h
 have J:=qR k a0 c z_a0 a1 r1 E
 refine fr 1 ?_
 refine fr 1 ?_
 refine aV (Δ:=[_,_]) (F:=_) (λ_ _ _=>aj rfl _) rfl rfl (bv [.tmp 9,.tmp 10] rfl rfl G7 rfl J) ⟨rfl,rfl,trivial⟩ λ_=>?_
 refine aW rfl rfl rfl (bq rfl Ax CP) trivial λb2=>?_
 refine aO rfl rfl (aK rfl AV rfl rfl rfl) ⟨rfl,rfl,trivial⟩ ?_
 refine d4 (kG (t:=(.arr 7 Tr)) (x:=r1) [6] .rep ⟨rfl,trivial⟩) ?_
 refine nt ?_
 refine sr ?_
 refine mq ?_
 refine ja (c7 rfl) ?_
 refine fl iT ?_
 refine fl gf ?_
 refine lo nP ?_
 refine ol Dj ?_
 refine fZ rfl ?_
 refine nt ?_
 refine ah ?_
 refine aC (λz4 y3=>[(0,Pt c),(2,.eq (.int .u8 a2)),(6,.at (.arr 7 Tr) r1),(16,Rs aI a0.2.2.2.2.2),(17,I (a0.2.2.2.2.2.length:Int)),(18,I y3)]) (λz4 y3=>[.obj c 124 (bi a0 z_a0),.inv z_a0 (cF k a0)]) (cR k a0 a2 r1) k () 0 (λ_=>rfl) h (SE.fin [0,1] ⟨rfl,rfl,rfl,rfl,rfl,rfl,trivial⟩ rfl) (λn z4 y3 h=>?_)
 unfold cR at h
 refine sr ?_
 refine jb (bh rfl) ?_
 refine nt ?_
 refine ai ?_
 refine ci h (λh=>?_) (λh=>?_)
 .
  refine sk (ai (ah (sr (mq ?_))));obtain⟨x5,y,h⟩:=aa h;refine jb (aA (t:=aI) rfl Dj nB y) ?_;refine ja (am (t:=aI) rfl nB rfl) ?_;refine aW rfl rfl rfl (bq rfl Gu Oq) trivial λb6=>?_;refine aq ?_;refine aO rfl rfl (aK rfl nB rfl rfl rfl) ⟨rfl,rfl,trivial⟩ ?_;refine nt (aE (Z:=Unit) (α:=Bool) (λz8 x7=>[(0,Pt c),(2,.eq (.int .u8 a2)),(6,.at (.arr 7 Tr) r1),(16,Rs aI a0.2.2.2.2.2),(17,I (a0.2.2.2.2.2.length:Int)),(18,I y3),(44,.eq (.bool x7))]) (λz8 x7=>[.obj c 124 (bi a0 z_a0),.inv z_a0 (cF k a0)]) h (λK h=>?_) (λz8 x7 h=>?_))
  .refine bB ?_;refine dm ?_;refine dm ?_;obtain⟨r9,D,h⟩:=aa h;refine db (av [.tmp 23,.tmp 24] rfl rfl J8 rfl (iG k a2 y3 r9 D)) ?_;refine da (fo rfl) ?_;refine nA rfl rfl rfl (ba rfl) ⟨rfl,trivial⟩ (λhb=>?_) (λhb=>?_)
   .replace h:=eh (tU hb) h;refine bu rfl rfl rfl rfl rfl (au rfl zN) ⟨rfl,rfl,trivial⟩ ?_;refine g9 0 rfl rfl rfl rfl rfl rfl (ao rfl bR jI rfl) ⟨rfl,rfl,trivial⟩ ?_;refine bu rfl rfl rfl rfl rfl (au rfl zO) ⟨rfl,rfl,trivial⟩ ?_;refine g9 0 rfl rfl rfl rfl rfl rfl (ao rfl bR jI rfl) ⟨rfl,rfl,trivial⟩ ?_;obtain⟨M,l,h⟩:=aa h;refine bu rfl rfl rfl rfl rfl (cN (t:=Tr) rfl xR fY l) ⟨rfl,rfl,rfl,trivial⟩ ?_;obtain⟨u,j,h⟩:=aa h;refine bu rfl rfl rfl rfl rfl (cN (t:=Ti) rfl sG bR j) ⟨rfl,rfl,rfl,trivial⟩ ?_;refine bu rfl rfl rfl rfl rfl (am (t:=Ti) rfl bR rfl) ⟨rfl,rfl,trivial⟩ ?_;refine bu rfl rfl rfl rfl rfl (ba rfl) ⟨rfl,rfl,trivial⟩ ?_;refine bu rfl rfl rfl rfl rfl (c7 rfl) ⟨rfl,rfl,trivial⟩ ?_;refine bu rfl rfl rfl rfl rfl (au rfl iT) ⟨rfl,rfl,trivial⟩ ?_;refine bu rfl rfl rfl rfl rfl (au rfl sw) ⟨rfl,rfl,trivial⟩ ?_;refine g9 1 rfl rfl rfl rfl rfl rfl (ao rfl bR jI rfl) ⟨rfl,rfl,trivial⟩ ?_;refine bu rfl rfl rfl rfl rfl (iV rfl) ⟨rfl,rfl,rfl,trivial⟩ ?_;refine bu rfl rfl rfl rfl rfl (au rfl J3) ⟨rfl,rfl,trivial⟩ ?_;refine g9 0 rfl rfl rfl rfl rfl rfl (ao rfl WP jI rfl) ⟨rfl,rfl,trivial⟩ ?_;refine df cY ?_;refine gb (Qs rfl U4) ?_;refine pt (nl ?_);exact jz ((), !decide ((decide (a0.2.2.1≤u))=x5.2.2)) h [1,2]
   .replace h:=cK (od hb) h;iterate 15 refine dg ?_
    refine df cY ?_;refine gn ?_;refine pf (nl ?_);exact jz ((),false) h [1,2]
  .refine cv h (λh=>?_) (λh=>?_)
   .refine ae (cG rfl (I9 rfl Ro RV) trivial ?_);refine ja (I6 rfl Ro) ?_;refine HG rfl rfl rfl rfl ?_;refine C3 ?_;refine uC ?_;refine uC ?_;refine C3 ?_;refine bD (SE.fin (Γ':=[]) [0,1] trivial rfl) ?_;cases h;exact ON
   .refine bg (aJ (tn (ae ?_)));obtain⟨s,e,h⟩:=aa h;refine jb (aU rfl e) ?_;refine mq (nl ?_);exact jz ((),s) h [0,1]
 .
  refine eQ (bp (bp (cM (lq ?_))));refine bD (SE.fin (Γ':=[]) [0,1] trivial rfl) ?_;cases h;exact aS () [] 2 trivial rfl
def dA(k:Nat)(a0:ab)(a1:Int)(a2:Int):Option Bool:=iq k a0 a1 a2
theorem O5:Rq Tryz.prog 154 (.agg #[]):=⟨⟨_,Ro⟩,λw=>by kernel_rfl⟩
theorem Ko:∀(S:FS) (w:World),(A.rep (.arr 0 Ti) []).holds S w (.agg #[]):=λ_ _=>⟨[],⟨rfl,rfl⟩,rfl⟩
theorem OY:∀w,(zeroValue 154).run Tryz.prog w= .ok (.agg #[]) w:=λw=>by kernel_rfl
theorem PH:∀S w,(A.cells S w (.rep (.arr 0 Ti) []) (Value.cells (.agg #[])).toList):=λ_ _=>⟨rfl,rfl⟩
theorem O7:eV Tryz.prog 154 0 true:=⟨λw=>by kernel_rfl,λw=>by kernel_rfl⟩
theorem VL:ag Tryz.prog 98:=ag.of Tryz.func98 (by kernel_rfl) (by kernel_rfl)
theorem TR:ag Tryz.prog 99:=ag.of Tryz.func99 (by kernel_rfl) (by kernel_rfl)
theorem LR:eV Tryz.prog 4 1 false:=⟨λw=>by kernel_rfl,λw=>by kernel_rfl⟩
theorem Va:∀w,(zeroValue 4).run Tryz.prog w= .ok (.bool false) w:=λw=>by kernel_rfl
theorem WA:∀S w,(A.cells S w (.eq (.bool false)) (Value.cells (.bool false)).toList):=λ_ _=>⟨rfl,rfl⟩
theorem CB:Ap Tryz.prog 98 (.iface 154 (.agg #[])) 4 (.bool false):=by
 refine⟨VL,λM e0=>?_,λM e0=>?_⟩
 .refine mT.of (M:=M) (m:=.returning) (m1:=.returning) (val:=.nilIface) Tryz.func98 rfl rfl (by decide) rfl rfl (by decide) (λρ=>rfl) (λfr b cs hb hm=>IL hb hm rfl) (.inl rfl) λb S w0=>?_;refine ja (MN Ko rfl O5) ?_;refine mq ?_;refine xr ?_;refine xr ?_;refine aW rfl rfl rfl (bq rfl OY PH) trivial λb1=>?_;refine aO rfl rfl (aK rfl O7 rfl rfl rfl) ⟨rfl,rfl,trivial⟩ ?_;refine aq (nt (sr ?_));refine mq (nt ?_);refine j9 rfl (λhb=>by cases hb) (λhb=>?_);refine bg (lq ?_);refine bD (SE.fin (Γ':=[]) [1] trivial rfl) ?_;exact aS () [] 1 trivial rfl
 .refine mT.of (M:=M) (m:=.panicking (i8 (.iface 154 (.agg #[])) false)) (m1:=.panicking (i8 (.iface 154 (.agg #[])) true)) (val:=.iface 154 (.agg #[])) Tryz.func98 rfl rfl (by decide) rfl rfl (by decide) (λρ=>rfl) (λfr b cs hb hm=>IK hb hm) (.inr ⟨_,rfl⟩) λb S w0=>?_;refine ja (MM Ko rfl O5) ?_;refine mq ?_;refine xr ?_;refine xr ?_;refine aW rfl rfl rfl (bq rfl OY PH) trivial λb1=>?_;refine aO rfl rfl (aK rfl O7 rfl rfl rfl) ⟨rfl,rfl,trivial⟩ ?_;refine aq (nt (sr ?_));refine mq (nt ?_);refine j9 rfl (λhb=>?_) (λhb=>by cases hb);refine ae (fr 1 ?_);refine aO rfl rfl (aK rfl LR rfl rfl rfl) ⟨rfl,rfl,trivial⟩ ?_;refine aH (lq ?_);refine bD (SE.fin (Γ':=[]) [0] trivial rfl) ?_;exact aS () [] 1 trivial rfl
theorem px(k:Nat)(a0:ab)(c z_a0:Nat)(a1:Int)(a2:Int)(r:Bool)(h:dA k a0 a1 a2=some r):
 cD (eP Tryz.prog) 68 [Pt c,.eq (.int .u8 a1),.eq (.int .u8 a2)] (sL a0 c z_a0 k) (λ_:Unit=>(bA [.eq (.bool r)],sL a0 c z_a0 k)):=by
 have cr:=pZ k a0 c z_a0 a1 a2 r h
 refine C6 12 Tryz.func68 rfl Tryz.ntmps68 rfl λS w0=>?_
 refine sr ?_
 refine aW rfl rfl rfl (bq rfl Va WA) trivial λb6=>?_
 refine nt ?_
 refine sr ?_
 refine ja (tP [] [.tmp 6] [] [(Pv b6)] rfl rfl rfl) ?_
 refine K0 rfl rfl rfl rfl rfl ?_
 refine nt ?_
 refine sr ?_
 iterate 3 refine mq ?_
 refine fr 2 ?_
 refine fr 2 ?_
 cases r with
 |false=>
  refine K1 (Ss:=[Pt c,.eq (.int .u8 a1),.eq (.int .u8 a2)]) (Δ:=sL a0 c z_a0 k) (F:=[.obj b6 4 (.eq (.bool false))]) [.tmp 8,.tmp 9,.tmp 10] rfl rfl rfl rfl TR ⟨rfl,rfl,rfl,trivial⟩ cr ?_;refine uC ?_;refine bD (SE.fin (Γ':=[(6,_)]) [2,0,1] ⟨rfl,trivial⟩ rfl) ?_;refine HH CB ?_;refine bD (SE.fin (Γ':=[(6,_)]) [1,2,0] ⟨rfl,trivial⟩ rfl) ?_;exact aS () [.eq (.bool false)] 2 ⟨⟨_,_,_,_,_,rfl,(.tail _ (.tail _ (.head _))),LR,(λ_=>rfl),rfl⟩,trivial⟩ rfl
 |true=>
  refine aV (Δ:=sL a0 c z_a0 k) (F:=[.obj b6 4 (.eq (.bool false))]) (λ_ _ _=>aj rfl _) rfl rfl (bv [.tmp 8,.tmp 9,.tmp 10] rfl rfl TR rfl cr.ok) ⟨rfl,rfl,rfl,trivial⟩ λ_=>?_;refine nt (sr (fr 2 ?_));refine aO rfl rfl (aK rfl LR rfl rfl rfl) ⟨rfl,rfl,trivial⟩ ?_;refine nt (aD (OM CB ?_));refine bD (SE.fin (Γ':=[(6,_)]) [1,2,0] ⟨rfl,trivial⟩ rfl) ?_;exact aS () [.eq (.bool true)] 2 ⟨⟨_,_,_,_,_,rfl,(.tail _ (.tail _ (.head _))),LR,(λ_=>rfl),rfl⟩,trivial⟩ rfl
def fh(k:Nat)(a0:ab)(a1:Int):Option (List Int):=
 (jJ k (pG (λ(y5:(List Int)) (p7:Int)=>
  (dA k a0 p7 a1).bind λr9=>
  if r9=true then((bU (aR (length y5+length [p7]))).bind λ_=>
  some (y5++[p7],true)) else(some (y5,true)))) a0.1 (([]:(List Int)),false)).bind λr8=>
 if r8.2=true then(none) else(some r8.1)
theorem lH(k:Nat)(a0:ab)(c z_a0:Nat)(a1:Int)(r:(List Int))(h:fh k a0 a1=some r):
 cD (eP Tryz.prog) 32 [Pt c,.eq (.int .u8 a1)] [.obj c 124 (bi a0 z_a0),.inv z_a0 (cF k a0)] (λ_:Unit=>(bA [.rep (.slice (.int .u8)) r],[.obj c 124 (bi a0 z_a0),.inv z_a0 (cF k a0)])):=by
 unfold fh at h
 replace h:=bb h
 refine xd 23 Tryz.func32 rfl Tryz.ntmps32 rfl λS w0=>?_
 refine sr ?_
 refine bx λb1=>?_
 refine bx λb2=>?_
 refine cq ?_
 refine nt ?_
 refine sr ?_
 refine aW rfl rfl rfl (bq rfl Lu Oo) trivial λb3=>?_
 refine nt ?_
 refine ai ?_
 refine sr ?_
 refine fr 2 ?_
 refine lo LQ ?_
 refine ja (c7 rfl) ?_
 refine fl iT ?_
 refine fl fq ?_
 refine fr 3 ?_
 refine lo bR ?_
 refine aW rfl rfl rfl (av [.tmp 11] rfl rfl Ub rfl (s9 a0.1)) ⟨rfl,trivial⟩ λb4=>?_
 refine nt ?_
 refine ah ?_
 refine fS (SE.nil 66 (.int .u8)) ?_
 refine dN 6 rfl ?_
 refine dN 6 rfl ?_
 refine dN 2 rfl ?_
 refine dN 6 rfl ?_
 refine dN 6 rfl ?_
 refine dN 6 rfl ?_
 refine dN 6 rfl ?_
 obtain⟨r8,s,h⟩:=aa h
 refine tw (Δ:=[.obj b4 3 (I a0.1),.obj c 124 (bi a0 z_a0),.obj b1 65 (Pt c),.obj b3 69 (.eq (.slice none 0 0)),.sl (.slice none 0 0) 66 (.int .u8) ([]:(List Int)),.obj b2 66 (.eq (.int .u8 a1)),.inv z_a0 (cF k a0)]) (F:=[]) (X:=Value) (J:=λ_=>RR r8.2) (E:=λz6=>[.obj b4 3 (I a0.1),.obj c 124 (bi a0 z_a0),.obj b1 65 (Pt c),.obj b3 69 (.eq z6),.sl z6 66 (.int .u8) r8.1,.obj b2 66 (.eq (.int .u8 a1)),.inv z_a0 (cF k a0)]) (r0:=λ_=>.tup .any) rfl rfl TX (λrec hp ha hb hs hpe hN hv l=>?_) (λdl z6=>vG (λhj=>?_) (λhj=>?_))
 .
  rcases rec with⟨st0,pe0,fn0,tm0,ps0,as0,bd0,df0⟩;dsimp only at hp ha hb hs hpe hN hv;subst hp hs hpe;have vN:CU tm0 [(2,Pt b1),(3,Pt b2),(5,Pt b3)]:=⟨congrArg A.eq (hv 2 _ rfl).symm,congrArg A.eq (hv 3 _ rfl).symm,congrArg A.eq (hv 5 _ rfl).symm,trivial⟩;refine cD.pick (M:=(eP Tryz.prog)) [1,0,2,3,4,5,6,7] [1,0,2,3,4,5,6,7] (qc (λ(z6:Value) (q:(List Int)×Bool)=>[.raw l (.loop (ly ⟨.ready,none,fn0,tm0, #[13],as0,bd0,df0⟩ (RR q.2))),.obj c 124 (bi a0 z_a0),.obj b1 65 (Pt c),.obj b3 69 (.eq z6),.sl z6 66 (.int .u8) q.1,.obj b2 66 (.eq (.int .u8 a1)),.inv z_a0 (cF k a0)]) l (pG (λ(y5:(List Int)) (p7:Int)=>
  (dA k a0 p7 a1).bind λr9=>
  if r9=true then((bU (aR (length y5+length [p7]))).bind λ_=>
  some (y5++[p7],true)) else(some (y5,true)))) k a0.1 b4 (λz6 q p r' h=>?_) (.slice none 0 0) (([]:(List Int)),false) r8 s) rfl (λ_=>rfl) (λ_=>rfl)
  obtain⟨rq,hq,h2,rfl⟩:=vH h;obtain⟨y5,b5⟩:=q;obtain rfl:b5=false:=hq;replace h:=bb h2;obtain⟨p7,hpv⟩:∃x,x=p:=⟨_,rfl⟩;subst hpv;refine YT.pick (R':=(λz6:Value=>(.eq (.bool rq.2),[.raw l (.loop (ly ⟨.ready,none,fn0,tm0, #[13],as0,bd0,df0⟩ (RR (!rq.2)))),.obj c 124 (bi a0 z_a0),.obj b1 65 (Pt c),.obj b3 69 (.eq z6),.sl z6 66 (.int .u8) rq.1,.obj b2 66 (.eq (.int .u8 a1)),.inv z_a0 (cF k a0)]))) [0,1,2,3,4,5,6] [0,1,2,3,4,5,6] (KE ha hb (N:=23) (Γ:=[(2,Pt b1),(3,Pt b2),(5,Pt b3)]) rfl hN (by decide) vN (λS w=>?_)) rfl (λ_=>rfl) (λ_=>rfl);refine ae (aq (nl ?_));refine C4 rfl rfl ?_;refine ah (sr (fr 2 ?_));refine lo LQ ?_;refine mq ?_;refine fr 5 ?_;refine lo rG ?_;obtain⟨r9,n,h⟩:=aa h;refine fr 6 ?_;refine fr 4 ?_;refine aV (Δ:=[_,_]) (F:=_) (λ_ _ _=>aj rfl _) rfl rfl (bv [.tmp 14,.tmp 15,.tmp 16] rfl rfl V2 rfl (px k a0 c z_a0 p7 a1 r9 n)) ⟨rfl,rfl,rfl,trivial⟩ λ_=>?_;refine nt (cv h (λh=>?_) (λh=>?_))
  .refine ae (fr 5 ?_);refine lo zb ?_;refine mq ?_;refine ja (aP (t:=(.int .u8)) [(.tmp 19,_)] [p7] rfl rfl L2 (.cons rfl .int .nil) rfl rfl) ?_;obtain⟨u,e,h⟩:=aa h;refine fr 6 ?_;refine cC rfl rfl rfl (bf rfl rfl L2 (ap e)) ⟨rfl,rfl,trivial⟩ λj=>?_;refine nJ λo12=>?_;refine fr 1 ?_;refine aO rfl rfl (aK rfl zb o12 rfl rfl) ⟨rfl,rfl,trivial⟩ ?_;refine aH (aJ (bI 3 rfl ?_));refine bI 4 rfl ?_;refine bI 3 rfl ?_;refine bI 3 rfl ?_;refine bI 5 rfl ?_;refine bI 5 rfl ?_;refine bI 6 rfl ?_;cases h;exact qZ j 6 rfl
  .refine bg (aJ (bI 1 rfl ?_));refine bI 2 rfl ?_;refine bI 6 rfl ?_;refine bI 6 rfl ?_;refine bI 5 rfl ?_;refine bI 5 rfl ?_;refine bI 6 rfl ?_;cases h;exact qZ z6 6 rfl
 .
  replace h:=cK (Lq hj) h;refine aJ (tn (sr (fr 4 ?_)));refine lo zb ?_;refine aq (nt (aD ?_));refine bI 5 rfl ?_;refine bD (iN (off:=0) [4,22] ⟨rfl,rfl,trivial⟩ rfl rfl) ?_;refine bI 1 rfl ?_;refine Gf ?_;refine bD (SE.fin (Γ':=[(4,_)]) [2,5,0,1,3,4] ⟨rfl,trivial⟩ rfl) ?_;cases h;exact aS () [_] 2 ⟨rfl,trivial⟩ rfl
 .
  replace h:=eh (Lp hj) h;cases h
def kO(k:Nat)(r7:(List Int)):Nat->((List (List Int))×Int)->Option (List (List Int))
 |0,_=>none
 |n+1,y8=>
  if y8.2 < (r7.length:Int) then((aG r7 y8.2).bind λh=>
  (fL k h).bind λc=>
  (bU (aR (length y8.1+length [c]))).bind λ_=>
  (ck (y8.2+1)).bind λe=>
  kO k r7 n (y8.1++[c],e)) else(some y8.1)
def rZ(k:Nat)(a0:ab):Option ((List (List Int))×Int):=
 (kU k a0 ([]:(List Int)) ([]:(List Int)) ([]:(List Int)) ([]:(List Int))).bind λr2=>
 gW r2.1 (if¬(r2.2.2=0) then(some (([]:(List (List Int))),r2.2.2)) else(none)) (λq3=>if¬(r2.2.2=0) then(some (([]:(List (List Int))),r2.2.2)) else((((fh k q3 0).bind λr7=>
 kO k r7 k (([]:(List (List Int))),0)):Option ((List (List Int)))).bind λx5=>
 some (x5,0)))
theorem xK(k:Nat)(a0:ab)(r:(List (List Int))×Int)(h:rZ k a0=some r):
 cD (eP Tryz.prog) 8 [.rep ak a0] [] (λ_:Unit=>(bA [.rep (.slice Tl) r.1,I r.2],[])):=by
 unfold rZ at h
 replace h:=bb h
 refine cD.of 33 Tryz.func8 rfl Tryz.ntmps8 rfl λS w0=>?_
 refine sr ?_
 refine bx λb1=>?_
 refine cq ?_
 refine cq ?_
 refine nt ?_
 refine sr ?_
 refine lo dq ?_
 obtain⟨r2,M,h⟩:=aa h
 have c:=nh k a0 ([]:(List Int)) ([]:(List Int)) ([]:(List Int)) ([]:(List Int)) r2 M
 rcases hr:r2.1 with _ |q3
 .
  rw [hr] at h c;replace h:=xO h;refine aV (Δ:=[]) (F:=_) (λ_ _ _=>aj rfl _) rfl rfl (bW (N:=[(.tmp 11,.rep ak a0),(.const (.slice none 0 0),.eq (.slice none 0 0)),(.const (.slice none 0 0),.eq (.slice none 0 0)),(.const (.slice none 0 0),.eq (.slice none 0 0)),(.const (.slice none 0 0),.eq (.slice none 0 0))]) (bv [.tmp 11,.const (.slice none 0 0),.const (.slice none 0 0),.const (.slice none 0 0),.const (.slice none 0 0)] rfl rfl Cb rfl c) λ_ _ _ hn=>⟨hn.1,(aN (t:=Tl) (x:=([]:(List Int))) .nil rfl rfl hn.2.1),(aN (t:=Tl) (x:=([]:(List Int))) .nil rfl rfl hn.2.2.1),(aN (t:=Tl) (x:=([]:(List Int))) .nil rfl rfl hn.2.2.2.1),(aN (t:=Tl) (x:=([]:(List Int))) .nil rfl rfl hn.2.2.2.2.1),trivial⟩) ⟨rfl,rfl,rfl,rfl,rfl,trivial⟩ λ_=>?_;refine mq ?_;refine xr ?_;refine xr ?_;refine xr ?_;refine aq ?_;refine aq ?_;refine aq (nt (ai (sr ?_)));refine mq ?_;refine jb (eT rfl) ?_;refine nt (cn h (λh=>?_) (λh=>?_))
  .refine sr (mq ?_);refine cq ?_;refine aq (nt (rx ?_));refine bD (ek (t:=(.slice Tl)) (x:=([]:(List (List Int)))) 2 rfl .nil rfl rfl) ?_;cases h;exact rb
  .cases h
 .
  rw [hr] at h c;replace h:=xN h;refine aV (Δ:=[]) (F:=_) (λ_ _ _=>aj rfl _) rfl rfl (bW (N:=[(.tmp 11,.rep ak a0),(.const (.slice none 0 0),.eq (.slice none 0 0)),(.const (.slice none 0 0),.eq (.slice none 0 0)),(.const (.slice none 0 0),.eq (.slice none 0 0)),(.const (.slice none 0 0),.eq (.slice none 0 0))]) (bv [.tmp 11,.const (.slice none 0 0),.const (.slice none 0 0),.const (.slice none 0 0),.const (.slice none 0 0)] rfl rfl Cb rfl c) λ_ _ _ hn=>⟨hn.1,(aN (t:=Tl) (x:=([]:(List Int))) .nil rfl rfl hn.2.1),(aN (t:=Tl) (x:=([]:(List Int))) .nil rfl rfl hn.2.2.1),(aN (t:=Tl) (x:=([]:(List Int))) .nil rfl rfl hn.2.2.2.1),(aN (t:=Tl) (x:=([]:(List Int))) .nil rfl rfl hn.2.2.2.2.1),trivial⟩) ⟨rfl,rfl,rfl,rfl,rfl,trivial⟩ λz4=>?_;refine mq ?_;refine xr ?_;refine xr ?_;refine xr ?_;refine aq ?_;refine aq ?_;refine aq (nt (ai (sr ?_)));refine mq ?_;refine jb (eT rfl) ?_;refine nt (cn h (λh=>?_) (λh=>?_))
  .refine sr (mq ?_);refine cq ?_;refine aq (nt (rx ?_));refine bD (ek (t:=(.slice Tl)) (x:=([]:(List (List Int)))) 2 rfl .nil rfl rfl) ?_;cases h;exact rb
  .refine sk (sr (cq (nt ?_)));refine aE (Z:=Value) (α:=(List (List Int))) (λz6 x5=>[(7,.eq z6)]) (λz6 x5=>[.sl z6 22 Tl x5,.inv z4.2 (cF k q3)]) h (λK h=>?_) (λz6 x5 h=>?_)
   .refine sr (mq ?_);obtain⟨r7,J,h⟩:=aa h;refine fr 1 ?_;refine fr 1 ?_;refine aV (Δ:=[_,_]) (F:=_) (λ_ _ _=>aj rfl _) rfl rfl (bv [.tmp 19,.const (.int .u8 (0))] rfl rfl Uc rfl (lH k q3 z4.1 z4.2 0 r7 J)) ⟨rfl,rfl,trivial⟩ λ_=>?_;refine ol Di ?_;refine fZ rfl ?_;refine nt (ah (fS (SE.nil 22 Tl) ?_));refine aC (λz9 y8=>[(7,.eq z9),(20,.rep (.slice (.int .u8)) r7),(21,I (r7.length:Int)),(22,I y8.2)]) (λz9 y8=>[.sl z9 22 Tl y8.1,.inv z4.2 (cF k q3)]) (kO k r7) k (.slice none 0 0) (([]:(List (List Int))),0) (λ_=>rfl) h (SE.fin [0,2] ⟨rfl,rfl,rfl,rfl,trivial⟩ rfl) (λn z9 y8 h=>?_);unfold kO at h;refine sr (jb (bh rfl) ?_);refine nt (ai (ci h (λh=>?_) (λh=>?_)))
    .refine sk (ai (ah (sr ?_)));obtain⟨D,l,h⟩:=aa h;refine jb (aA (t:=(.int .u8)) rfl Di rG l) ?_;refine ja (am (t:=(.int .u8)) rfl rG rfl) ?_;refine aq (nt (ae ?_));iterate 2 refine mq ?_
     obtain⟨e,u,h⟩:=aa h;refine ja (av [.tmp 27] rfl rfl QZ rfl (lC k D e u)) ?_;refine ja (aP (t:=Tl) [(.tmp 28,_)] [e] rfl rfl kj (.cons rfl .rep .nil) rfl rfl) ?_;obtain⟨O,s,h⟩:=aa h;refine cC rfl rfl rfl (bf rfl rfl kj (ap s)) ⟨rfl,rfl,trivial⟩ λE=>?_;refine aq (aH (aJ (tn (ae ?_))));obtain⟨y,j,h⟩:=aa h;refine jb (aU rfl j) ?_;refine mq (nl ?_);exact jz (E,(y8.1++[e],y)) h [0,1]
    .refine xa ?_;exact jz (z9,y8.1) h [0,1]
   .refine sr (mq ?_);refine aq ?_;refine cq (nt (aD ?_));refine bD (fu [2,7,32] ⟨rfl,rfl,rfl,trivial⟩) ?_;cases h;exact rb
def ky(k:Nat)(a0:ab)(a1:(List Int))(a2:(List Int))(a3:(List Int)):Option ((Option ab)×(List Int)×Int):=
 (kU k a0 ([]:(List Int)) a1 a2 a3).bind λr2=>
 gW r2.1 (if¬(r2.2.2=0) then(some (none,([]:(List Int)),r2.2.2)) else(none)) (λq3=>if¬(r2.2.2=0) then(some (none,([]:(List Int)),r2.2.2)) else((fh k q3 0).bind λr5=>
 if(r5.length:Int)=0 then(some (none,([]:(List Int)),9)) else(some (some q3,r5,0))))
theorem oR(k:Nat)(a0:ab)(a1:(List Int))(a2:(List Int))(a3:(List Int))(r:(Option ab)×(List Int)×Int)(h:ky k a0 a1 a2 a3=some r):
 cD (eP Tryz.prog) 35 [.rep ak a0,.rep Tl a1,.rep Tl a2,.rep Tl a3] [] (λz:Nat×Nat=>(bA [MJ r.1 z.1,.rep (.slice (.int .u8)) r.2.1,I r.2.2],MI r.1 λq=>sL q z.1 z.2 k)):=by
 unfold ky at h
 replace h:=bb h
 refine cD.of 34 Tryz.func35 rfl Tryz.ntmps35 rfl λS w0=>?_
 refine sr ?_
 refine bx λb1=>?_
 refine cq ?_
 refine cq ?_
 refine cq ?_
 refine nt ?_
 refine sr ?_
 refine lo dq ?_
 iterate 3 refine mq ?_
 obtain⟨r2,j,h⟩:=aa h
 have c:=nh k a0 ([]:(List Int)) a1 a2 a3 r2 j
 rcases hr:r2.1 with _ |q3
 .
  rw [hr] at h c;replace h:=xO h;refine aV (Δ:=[]) (F:=_) (λ_ _ _=>aj rfl _) rfl rfl (bW (N:=[(.tmp 16,.rep ak a0),(.const (.slice none 0 0),.eq (.slice none 0 0)),(.tmp 17,.rep Tl a1),(.tmp 18,.rep Tl a2),(.tmp 19,.rep Tl a3)]) (bv [.tmp 16,.const (.slice none 0 0),.tmp 17,.tmp 18,.tmp 19] rfl rfl Cb rfl c) λ_ _ _ hn=>⟨hn.1,(aN (t:=Tl) (x:=([]:(List Int))) .nil rfl rfl hn.2.1),hn.2.2.1,hn.2.2.2.1,hn.2.2.2.2.1,trivial⟩) ⟨rfl,rfl,rfl,rfl,rfl,trivial⟩ λ_=>?_;refine mq ?_;refine xr ?_;refine xr ?_;refine xr ?_;refine aq ?_;refine aq ?_;refine aq (nt (ai (sr ?_)));refine mq ?_;refine jb (eT rfl) ?_;refine nt (cn h (λh=>?_) (λh=>?_))
  .refine sr (mq ?_);refine cq ?_;refine cq ?_;refine aq (nt (rx ?_));refine bD (ek (t:=(.slice (.int .u8))) (x:=([]:(List Int))) 9 rfl .nil rfl rfl) ?_;cases h;exact aS (0,0) [.eq (.pointer none),_,_] 0 ⟨rfl,rfl,rfl,trivial⟩ rfl
  .cases h
 .
  rw [hr] at h c;replace h:=xN h;refine aV (Δ:=[]) (F:=_) (λ_ _ _=>aj rfl _) rfl rfl (bW (N:=[(.tmp 16,.rep ak a0),(.const (.slice none 0 0),.eq (.slice none 0 0)),(.tmp 17,.rep Tl a1),(.tmp 18,.rep Tl a2),(.tmp 19,.rep Tl a3)]) (bv [.tmp 16,.const (.slice none 0 0),.tmp 17,.tmp 18,.tmp 19] rfl rfl Cb rfl c) λ_ _ _ hn=>⟨hn.1,(aN (t:=Tl) (x:=([]:(List Int))) .nil rfl rfl hn.2.1),hn.2.2.1,hn.2.2.2.1,hn.2.2.2.2.1,trivial⟩) ⟨rfl,rfl,rfl,rfl,rfl,trivial⟩ λz4=>?_;refine mq ?_;refine xr ?_;refine xr ?_;refine xr ?_;refine aq ?_;refine aq ?_;refine aq (nt (ai (sr ?_)));refine mq ?_;refine jb (eT rfl) ?_;refine nt (cn h (λh=>?_) (λh=>?_))
  .refine sr (mq ?_);refine cq ?_;refine cq ?_;refine aq (nt (rx ?_));refine bD (ek (t:=(.slice (.int .u8))) (x:=([]:(List Int))) 9 rfl .nil rfl rfl) ?_;cases h;exact aS (0,0) [.eq (.pointer none),_,_] 0 ⟨rfl,rfl,rfl,trivial⟩ rfl
  .refine sk (sr (mq ?_));obtain⟨r5,e,h⟩:=aa h;refine fr 1 ?_;refine fr 1 ?_;refine aV (Δ:=[_,_]) (F:=_) (λ_ _ _=>aj rfl _) rfl rfl (bv [.tmp 27,.const (.int .u8 (0))] rfl rfl Uc rfl (lH k q3 z4.1 z4.2 0 r5 e)) ⟨rfl,rfl,trivial⟩ λ_=>?_;refine aq (nt (ai (sr ?_)));refine mq ?_;refine ol Di ?_;refine jb (jF rfl) ?_;refine nt (ci h (λh=>?_) (λh=>?_))
   .refine sr (cq ?_);refine cq ?_;refine cq (nt (rx ?_));refine bD (ek (t:=(.slice (.int .u8))) (x:=([]:(List Int))) 9 rfl .nil rfl rfl) ?_;cases h;exact aS (0,0) [.eq (.pointer none),_,_] 0 ⟨rfl,rfl,rfl,trivial⟩ rfl
   .refine sk (sr ?_);iterate 2 refine mq ?_
    refine aq ?_;refine aq ?_;refine cq (nt (aD ?_));cases h;exact aS (z4.1,z4.2) [.eq (.pointer (some ⟨z4.1,0,none⟩)),_,_] 2 ⟨rfl,rfl,rfl,trivial⟩ rfl
def eF(k:Nat)(a1:Int)(a2:Int)(y4:(List (List (List Int)))×Int)(h:(List Int)):Nat->((List Int)×Int)->Option (List Int)
 |0,_=>none
 |n+1,c=>
  if c.2 < (h.length:Int) then((((aG h c.2).bind λe=>
  ((if y4.2 < a1 then(some true) else((fa k a2 e).bind λs=>
  some (!s))):Option (Bool)).bind λl=>
  if l=true then((bU (aR (length c.1+length [e]))).bind λ_=>
  some (c.1++[e])) else(some c.1)):Option ((List Int))).bind λr=>
  (ck (c.2+1)).bind λj=>
  eF k a1 a2 y4 h n (r,j)) else(some c.1)
def eG(k:Nat)(a1:Int)(a2:Int)(y4:(List (List (List Int)))×Int)(x8:(List (List Int))):Nat->((List (List Int))×Int)->Option (List (List Int))
 |0,_=>none
 |n+1,c=>
  if c.2 < (x8.length:Int) then((((aG x8 c.2).bind λj=>
  ((eF k a1 a2 y4 j k (([]:(List Int)),0)):Option ((List Int))).bind λe=>
  (bU (aR (length c.1+length [e]))).bind λ_=>
  some (c.1++[e])):Option ((List (List Int)))).bind λl=>
  (ck (c.2+1)).bind λh=>
  eG k a1 a2 y4 x8 n (l,h)) else(some c.1)
def fe(k:Nat)(a0:ab)(a1:Int)(a2:Int):Nat->((List (List (List Int)))×Int)->Option (List (List (List Int)))
 |0,_=>none
 |n+1,y4=>
  if y4.2 < (a0.2.2.2.2.1.length:Int) then((((aG a0.2.2.2.2.1 y4.2).bind λx8=>
  ((eG k a1 a2 y4 x8 k (([]:(List (List Int))),0)):Option ((List (List Int)))).bind λx9=>
  (bU (aR (length y4.1+length [x9]))).bind λ_=>
  some (y4.1++[x9])):Option ((List (List (List Int))))).bind λx6=>
  (ck (y4.2+1)).bind λc=>
  fe k a0 a1 a2 n (x6,c)) else(some y4.1)
def jA(k:Nat)(a0:ab)(a1:Int)(a2:Int):Option (Option ab):=
 ((fe k a0 a1 a2 k (([]:(List (List (List Int)))),0)):Option ((List (List (List Int))))).bind λx2=>
 (jW k (a0.1,a0.2.1,a0.2.2.1,a0.2.2.2.1,x2,a0.2.2.2.2.2)).bind λc=>
 gW c (some none) (λe=>some (some e))
theorem xH(k:Nat)(a0:ab)(a1:Int)(a2:Int)(r:(Option ab))(h:jA k a0 a1 a2=some r):
 c6 Tryz.prog 37 [.rep ak a0,I a1,.eq (.int .u8 a2)] [] (λz:Nat×Nat=>(bA [MJ r z.1],MI r λq=>sL q z.1 z.2 k)):=by
 unfold jA at h
 replace h:=bb h
 refine c6.of 69 Tryz.func37 rfl Tryz.ntmps37 rfl λS w0=>?_
 refine sr ?_
 refine bx λb1=>?_
 refine cq ?_
 refine nt ?_
 refine sr ?_
 refine fl bL ?_
 refine lo eL ?_
 refine mq ?_
 refine ja (tP [.tmp 19] [] [(.int .u8 a2)] [] rfl rfl rfl) ?_
 refine aq ?_
 refine aq ?_
 refine nt ?_
 refine sr ?_
 refine fl bL ?_
 refine aO rfl rfl (aK rfl eL rfl rfl rfl) ⟨rfl,rfl,trivial⟩ ?_
 refine nt ?_
 refine aE (Z:=Value) (α:=(List (List (List Int)))) (λz3 x2=>[(3,Pt b1)]) (λz3 x2=>[.obj b1 28 (.agg (.pair (I a0.1) (.pair (I a0.2.1) (.pair (I a0.2.2.1) (.pair (I a0.2.2.2.1) (.pair (.eq z3) (Rs aI a0.2.2.2.2.2))))))),.sl z3 29 (.slice Tl) x2]) h (λK h=>?_) (λz3 x2 h=>?_)
 .
  refine sr (mq ?_);refine ol oC ?_;refine fZ rfl ?_;refine nt (ah (fS (SE.nil 29 (.slice Tl)) ?_));refine dN 1 rfl ?_;refine fS (gZ (a:=.agg (.pair (.rep Ti a0.1) (.pair (.rep Ti a0.2.1) (.pair (.rep Ti a0.2.2.1) (.pair (.rep Ti a0.2.2.2.1) (.pair (.eq (.slice none 0 0)) (Rs aI a0.2.2.2.2.2))))))) (a':=.agg (.pair (I a0.1) (.pair (I a0.2.1) (.pair (I a0.2.2.1) (.pair (I a0.2.2.2.1) (.pair (.eq (.slice none 0 0)) (Rs aI a0.2.2.2.2.2))))))) (AE.agg (AE.pair AE.int (AE.pair AE.int (AE.pair AE.int (AE.pair AE.int AE.rfl)))))) ?_;refine aC (λz5 y4=>[(1,I a1),(3,Pt b1),(8,.eq (.func (.func 69) #[(.int .u8 a2)] #[])),(22,.rep (.slice (.slice Tl)) a0.2.2.2.2.1),(23,I (a0.2.2.2.2.1.length:Int)),(24,I y4.2)]) (λz5 y4=>[.obj b1 28 (.agg (.pair (I a0.1) (.pair (I a0.2.1) (.pair (I a0.2.2.1) (.pair (I a0.2.2.2.1) (.pair (.eq z5) (Rs aI a0.2.2.2.2.2))))))),.sl z5 29 (.slice Tl) y4.1]) (fe k a0 a1 a2) k (.slice none 0 0) (([]:(List (List (List Int)))),0) (λ_=>rfl) h (SE.fin [0,1] ⟨rfl,rfl,rfl,rfl,rfl,rfl,trivial⟩ rfl) (λn z5 y4 h=>?_);unfold fe at h;refine sr (jb (bh rfl) ?_);refine nt (ai (ci h (λh=>?_) (λh=>?_)))
  .refine sk (aE (Z:=Value) (α:=(List (List (List Int)))) (λz7 x6=>[(1,I a1),(3,Pt b1),(8,.eq (.func (.func 69) #[(.int .u8 a2)] #[])),(22,.rep (.slice (.slice Tl)) a0.2.2.2.2.1),(23,I (a0.2.2.2.2.1.length:Int)),(24,I y4.2)]) (λz7 x6=>[.obj b1 28 (.agg (.pair (I a0.1) (.pair (I a0.2.1) (.pair (I a0.2.2.1) (.pair (I a0.2.2.2.1) (.pair (.eq z7) (Rs aI a0.2.2.2.2.2))))))),.sl z7 29 (.slice Tl) x6]) h (λK h=>?_) (λz7 x6 h=>?_))
   .refine ah (sr (mq ?_));obtain⟨x8,Xt,h⟩:=aa h;refine jb (aA (t:=(.slice Tl)) rfl oC iR Xt) ?_;refine ja (am (t:=(.slice Tl)) rfl iR rfl) ?_;refine aq ?_;refine aq (nt (sr ?_));refine cq (nt ?_);refine aE (Z:=Value) (α:=(List (List Int))) (λQ x9=>[(1,I a1),(3,Pt b1),(8,.eq (.func (.func 69) #[(.int .u8 a2)] #[])),(11,.eq Q),(22,.rep (.slice (.slice Tl)) a0.2.2.2.2.1),(23,I (a0.2.2.2.2.1.length:Int)),(24,I y4.2)]) (λQ x9=>[.obj b1 28 (.agg (.pair (I a0.1) (.pair (I a0.2.1) (.pair (I a0.2.2.1) (.pair (I a0.2.2.2.1) (.pair (.eq z5) (Rs aI a0.2.2.2.2.2))))))),.sl z5 29 (.slice Tl) y4.1,.sl Q 22 Tl x9]) h (λK h=>?_) (λQ x9 h=>?_)
    .refine sr (mq ?_);refine ol lF ?_;refine fZ rfl ?_;refine nt (ah (fS (SE.nil 22 Tl) ?_));refine aC (λe c=>[(1,I a1),(3,Pt b1),(8,.eq (.func (.func 69) #[(.int .u8 a2)] #[])),(9,I y4.2),(11,.eq e),(22,.rep (.slice (.slice Tl)) a0.2.2.2.2.1),(23,I (a0.2.2.2.2.1.length:Int)),(24,I y4.2),(29,.rep (.slice Tl) x8),(30,I (x8.length:Int)),(31,I c.2)]) (λe c=>[.obj b1 28 (.agg (.pair (I a0.1) (.pair (I a0.2.1) (.pair (I a0.2.2.1) (.pair (I a0.2.2.2.1) (.pair (.eq z5) (Rs aI a0.2.2.2.2.2))))))),.sl z5 29 (.slice Tl) y4.1,.sl e 22 Tl c.1]) (eG k a1 a2 y4 x8) k (.slice none 0 0) (([]:(List (List Int))),0) (λ_=>rfl) h (SE.fin [1,2,0] ⟨rfl,rfl,rfl,rfl,rfl,rfl,rfl,rfl,rfl,rfl,rfl,trivial⟩ rfl) (λn e c h=>?_);unfold eG at h;refine sr (jb (bh rfl) ?_);refine nt (ai (ci h (λh=>?_) (λh=>?_)))
     .refine sk (aE (Z:=Value) (α:=(List (List Int))) (λE X=>[(1,I a1),(3,Pt b1),(8,.eq (.func (.func 69) #[(.int .u8 a2)] #[])),(9,I y4.2),(11,.eq E),(22,.rep (.slice (.slice Tl)) a0.2.2.2.2.1),(23,I (a0.2.2.2.2.1.length:Int)),(24,I y4.2),(29,.rep (.slice Tl) x8),(30,I (x8.length:Int)),(31,I c.2)]) (λE X=>[.obj b1 28 (.agg (.pair (I a0.1) (.pair (I a0.2.1) (.pair (I a0.2.2.1) (.pair (I a0.2.2.2.1) (.pair (.eq z5) (Rs aI a0.2.2.2.2.2))))))),.sl z5 29 (.slice Tl) y4.1,.sl E 22 Tl X]) h (λK h=>?_) (λE X h=>?_))
      .refine ah (sr ?_);obtain⟨u,Xh,h⟩:=aa h;refine jb (aA (t:=Tl) rfl lF dO Xh) ?_;refine ja (am (t:=Tl) rfl dO rfl) ?_;refine aq (nt (sr ?_));refine cq (nt ?_);refine aE (Z:=Value) (α:=(List Int)) (λO M=>[(1,I a1),(3,Pt b1),(8,.eq (.func (.func 69) #[(.int .u8 a2)] #[])),(9,I y4.2),(11,.eq e),(14,.eq O),(22,.rep (.slice (.slice Tl)) a0.2.2.2.2.1),(23,I (a0.2.2.2.2.1.length:Int)),(24,I y4.2),(29,.rep (.slice Tl) x8),(30,I (x8.length:Int)),(31,I c.2)]) (λO M=>[.obj b1 28 (.agg (.pair (I a0.1) (.pair (I a0.2.1) (.pair (I a0.2.2.1) (.pair (I a0.2.2.2.1) (.pair (.eq z5) (Rs aI a0.2.2.2.2.2))))))),.sl z5 29 (.slice Tl) y4.1,.sl e 22 Tl c.1,.sl O 3 Ti M]) h (λK h=>?_) (λO M h=>?_)
       .refine sr (mq ?_);refine ol gi ?_;refine fZ rfl ?_;refine nt (ah (fS (SE.nil 3 Ti) ?_));refine aC (λl j=>[(1,I a1),(3,Pt b1),(8,.eq (.func (.func 69) #[(.int .u8 a2)] #[])),(9,I y4.2),(11,.eq e),(14,.eq l),(22,.rep (.slice (.slice Tl)) a0.2.2.2.2.1),(23,I (a0.2.2.2.2.1.length:Int)),(24,I y4.2),(29,.rep (.slice Tl) x8),(30,I (x8.length:Int)),(31,I c.2),(35,.rep Tl u),(36,I (u.length:Int)),(37,I j.2)]) (λl j=>[.obj b1 28 (.agg (.pair (I a0.1) (.pair (I a0.2.1) (.pair (I a0.2.2.1) (.pair (I a0.2.2.2.1) (.pair (.eq z5) (Rs aI a0.2.2.2.2.2))))))),.sl z5 29 (.slice Tl) y4.1,.sl e 22 Tl c.1,.sl l 3 Ti j.1]) (eF k a1 a2 y4 u) k (.slice none 0 0) (([]:(List Int)),0) (λ_=>rfl) h (SE.fin [1,2,3,0] ⟨rfl,rfl,rfl,rfl,rfl,rfl,rfl,rfl,rfl,rfl,rfl,rfl,rfl,rfl,rfl,trivial⟩ rfl) (λn l j h=>?_);unfold eF at h;refine sr (jb (bh rfl) ?_);refine nt (ai (ci h (λh=>?_) (λh=>?_)))
        .refine sk (aE (Z:=Value) (α:=(List Int)) (λD U=>[(1,I a1),(3,Pt b1),(8,.eq (.func (.func 69) #[(.int .u8 a2)] #[])),(9,I y4.2),(11,.eq e),(14,.eq D),(22,.rep (.slice (.slice Tl)) a0.2.2.2.2.1),(23,I (a0.2.2.2.2.1.length:Int)),(24,I y4.2),(29,.rep (.slice Tl) x8),(30,I (x8.length:Int)),(31,I c.2),(35,.rep Tl u),(36,I (u.length:Int)),(37,I j.2)]) (λD U=>[.obj b1 28 (.agg (.pair (I a0.1) (.pair (I a0.2.1) (.pair (I a0.2.2.1) (.pair (I a0.2.2.2.1) (.pair (.eq z5) (Rs aI a0.2.2.2.2.2))))))),.sl z5 29 (.slice Tl) y4.1,.sl e 22 Tl c.1,.sl D 3 Ti U]) h (λK h=>?_) (λD U h=>?_))
         .refine ah (sr ?_);obtain⟨J,Xg,h⟩:=aa h;refine jb (aA (t:=Ti) rfl gi bR Xg) ?_;refine ja (am (t:=Ti) rfl bR rfl) ?_;refine aq (nt ?_);refine aE (Z:=Unit) (α:=Bool) (λmc gw=>[(1,I a1),(3,Pt b1),(8,.eq (.func (.func 69) #[(.int .u8 a2)] #[])),(9,I y4.2),(11,.eq e),(14,.eq l),(16,I J),(22,.rep (.slice (.slice Tl)) a0.2.2.2.2.1),(23,I (a0.2.2.2.2.1.length:Int)),(24,I y4.2),(29,.rep (.slice Tl) x8),(30,I (x8.length:Int)),(31,I c.2),(35,.rep Tl u),(36,I (u.length:Int)),(37,I j.2),(49,.eq (.bool gw))]) (λmc gw=>[.obj b1 28 (.agg (.pair (I a0.1) (.pair (I a0.2.1) (.pair (I a0.2.2.1) (.pair (I a0.2.2.2.1) (.pair (.eq z5) (Rs aI a0.2.2.2.2.2))))))),.sl z5 29 (.slice Tl) y4.1,.sl e 22 Tl c.1,.sl l 3 Ti j.1]) h (λK h=>?_) (λmc gw h=>?_)
          .refine ae ?_;iterate 2 refine mq ?_
           refine jb (bh rfl) ?_;refine mq ?_;refine bX (s:=44) rfl (λhb=>?_) (λhb=>?_)
           .replace h:=eh (va hb) h;iterate 4 refine gn ?_
            refine pt (nl ?_);exact jz ((),true) h [0,1,2,3]
           .replace h:=cK (vb hb) h;refine gm ?_;refine gm ?_;obtain⟨qt,Xm,h⟩:=aa h;refine gb (vn (fs:=[(.int .u8 a2)]) (cs:=[]) (ags:=[I J]) [.tmp 46] rfl rfl J8 rfl (iG k a2 J qt Xm)) ?_;refine ga (fo rfl) ?_;refine pf (nl ?_);exact jz ((), !qt) h [0,1,2,3]
          .refine cv h (λh=>?_) (λh=>?_)
           .refine ae ?_;iterate 2 refine mq ?_
            refine ja (aP (t:=Ti) [(.tmp 51,_)] [J] rfl rfl cZ (.cons rfl .int .nil) rfl rfl) ?_;obtain⟨Xv,Xk,h⟩:=aa h;refine fr 3 ?_;refine cC rfl rfl rfl (bf rfl rfl cZ (ap Xk)) ⟨rfl,rfl,trivial⟩ λXs=>?_;refine aq (aH (bn ?_));exact jz (Xs,j.1++[J]) h [1,2,3,0]
           .refine bg (bn ?_);exact jz (l,j.1) h [0,1,2,3]
         .refine ae ?_;obtain⟨Xp,Xf,h⟩:=aa h;refine jb (aU rfl Xf) ?_;refine mq (nl ?_);exact jz (D,(U,Xp)) h [0,1,2,3]
        .refine xa ?_;exact jz (l,j.1) h [0,1,2,3]
       .refine ae ?_;iterate 2 refine mq ?_
        refine fr 3 ?_;refine d4 (fu [14,56] ⟨rfl,rfl,trivial⟩) ?_;refine ja (aP (t:=Tl) [(.tmp 56,_)] [M] rfl rfl kj (.cons rfl .rep .nil) rfl rfl) ?_;obtain⟨Xu,Xj,h⟩:=aa h;refine fr 2 ?_;refine cC rfl rfl rfl (bf rfl rfl kj (ap Xj)) ⟨rfl,rfl,trivial⟩ λXr=>?_;refine aq (aH (bn ?_));exact jz (Xr,c.1++[M]) h [1,2,0]
      .refine ae ?_;obtain⟨Xo,Xe,h⟩:=aa h;refine jb (aU rfl Xe) ?_;refine mq (nl ?_);exact jz (E,(X,Xo)) h [0,1,2]
     .refine xa ?_;exact jz (e,c.1) h [0,1,2]
    .refine ae (fl bL ?_);refine lo eL ?_;refine mq ?_;refine fr 2 ?_;refine d4 (fu [11,62] ⟨rfl,rfl,trivial⟩) ?_;refine ja (aP (t:=(.slice Tl)) [(.tmp 62,_)] [x9] rfl rfl vL (.cons rfl .rep .nil) rfl rfl) ?_;obtain⟨u32,Xi,h⟩:=aa h;refine fr 1 ?_;refine cC rfl rfl rfl (bf rfl rfl vL (ap Xi)) ⟨rfl,rfl,trivial⟩ λXq=>?_;refine fl bL ?_;refine nJ λo34=>?_;refine fr 1 ?_;refine aO rfl rfl (aK rfl eL o34 rfl rfl) ⟨rfl,rfl,trivial⟩ ?_;refine aH (bn ?_);exact jz (Xq,y4.1++[x9]) h [0,1]
   .refine ae ?_;obtain⟨Xn,zz,h⟩:=aa h;refine jb (aU rfl zz) ?_;refine mq (nl ?_);exact jz (z7,(x6,Xn)) h [0,1]
  .refine xa ?_;exact jz (z5,y4.1) h [0,1]
 .
  refine sr (fr 1 ?_);refine d4 (iN (off:=4) [] trivial rfl rfl) ?_;refine lo dq ?_;obtain⟨mw,Xl,h⟩:=aa h;have y:=pm k (a0.1,a0.2.1,a0.2.2.1,a0.2.2.2.1,x2,a0.2.2.2.2.2) mw Xl;rcases hr:mw with _ |Xw
  .rw [hr] at h y;replace h:=xO h;refine aV (Δ:=[]) (F:=_) (λ_ _ _=>aj rfl _) rfl rfl (bW (N:=[(.tmp 67,.agg (.pair (I a0.1) (.pair (I a0.2.1) (.pair (I a0.2.2.1) (.pair (I a0.2.2.2.1) (.pair (.rep (.slice (.slice Tl)) x2) (Rs aI a0.2.2.2.2.2)))))))]) (av [.tmp 67] rfl rfl NS rfl y) λ_ _ _ hn=>⟨(aN (t:=ak) (x:=(a0.1,a0.2.1,a0.2.2.1,a0.2.2.2.1,x2,a0.2.2.2.2.2)) (.agg (.pair .int (.pair .int (.pair .int (.pair .int (.pair .rep .rep)))))) trivial rfl hn.1),trivial⟩) ⟨rfl,trivial⟩ λ_=>?_;refine aq (nt (aD ?_));cases h;exact aS (0,0) [.eq (.pointer none)] 0 ⟨rfl,trivial⟩ rfl
  .rw [hr] at h y;replace h:=xN h;refine aV (Δ:=[]) (F:=_) (λ_ _ _=>aj rfl _) rfl rfl (bW (N:=[(.tmp 67,.agg (.pair (I a0.1) (.pair (I a0.2.1) (.pair (I a0.2.2.1) (.pair (I a0.2.2.2.1) (.pair (.rep (.slice (.slice Tl)) x2) (Rs aI a0.2.2.2.2.2)))))))]) (av [.tmp 67] rfl rfl NS rfl y) λ_ _ _ hn=>⟨(aN (t:=ak) (x:=(a0.1,a0.2.1,a0.2.2.1,a0.2.2.2.1,x2,a0.2.2.2.2.2)) (.agg (.pair .int (.pair .int (.pair .int (.pair .int (.pair .rep .rep)))))) trivial rfl hn.1),trivial⟩) ⟨rfl,trivial⟩ λY=>?_;refine aq (nt (aD ?_));cases h;exact aS (Y.1,Y.2) [.eq (.pointer (some ⟨Y.1,0,none⟩))] 2 ⟨rfl,trivial⟩ rfl
def co(k:Nat)(a0:ab)(r1:(List (List Int)))(y5:Int):Nat->Int->Option (Except Bool Unit)
 |0,_=>none
 |n+1,c=>
  if c < a0.1 then((((aG r1 y5).bind λs=>
  (aG s c).bind λr=>
  if r < 0 then((ck (y5+1)).bind λl=>
  (aG r1 l).bind λj=>
  (aG j c).bind λh=>
  some (decide (h=0))) else(some false)):Option (Bool)).bind λu=>
  if u=true then(some (.error true)) else((ck (c+1)).bind λe=>
  co k a0 r1 y5 n e)) else(some (.ok ()))
def dh(k:Nat)(a0:ab)(r1:(List (List Int))):Nat->Int->Option (Except Bool Unit)
 |0,_=>none
 |n+1,y5=>
  if y5 < (a0.2.2.2.2.1.length:Int) then(bE (α:=Unit) ((ck (y5+1)).bind λx9=>
  (aG r1 x9).bind λh=>
  (aG r1 y5).bind λc=>
  (bU (vS h/\vS c)).bind λ_=>
  if h=c then(some (.ok ())) else(co k a0 r1 y5 k 0)) (λe=>some (.error e)) λ_=>
  (ck (y5+1)).bind λj=>
  dh k a0 r1 n j) else(some (.ok ()))
def fN(k:Nat)(a0:ab)(a1:Int)(a2:Int):Option Bool:=
 (mX k a0 a1).bind λr1=>
 bE (α:=Unit) (dh k a0 r1 k a2) (some) λ_=>
 some false
theorem pY(k:Nat)(a0:ab)(c z_a0:Nat)(a1:Int)(a2:Int)(r:Bool)(h:fN k a0 a1 a2=some r):
 cD (eP Tryz.prog) 39 [Pt c,.eq (.int .u8 a1),I a2] [.obj c 124 (bi a0 z_a0),.inv z_a0 (cF k a0)] (λ_:Unit=>(bA [.eq (.bool r)],[.obj c 124 (bi a0 z_a0),.inv z_a0 (cF k a0)])):=by
 unfold fN at h
 replace h:=bb h
 refine cD.of 56 Tryz.func39 rfl Tryz.ntmps39 rfl λS w0=>?_
 refine sr ?_
 refine cq ?_
 refine nt ?_
 refine sr ?_
 iterate 2 refine mq ?_
 obtain⟨r1,Xe,h⟩:=aa h
 have Xf:=qR k a0 c z_a0 a1 r1 Xe
 refine fr 1 ?_
 refine fr 1 ?_
 refine aV (Δ:=[_,_]) (F:=_) (λ_ _ _=>aj rfl _) rfl rfl (bv [.tmp 10,.tmp 11] rfl rfl G7 rfl Xf) ⟨rfl,rfl,trivial⟩ λ_=>?_
 refine aW rfl rfl rfl (bq rfl Ax CP) trivial λb2=>?_
 refine aO rfl rfl (aK rfl AV rfl rfl rfl) ⟨rfl,rfl,trivial⟩ ?_
 refine d4 (kG (t:=(.arr 7 Tr)) (x:=r1) [7] .rep ⟨rfl,trivial⟩) ?_
 refine nt ?_
 refine cu (Z:=Unit) (α:=Unit) (λz4 x3=>[]) (λz4 x3=>[.obj c 124 (bi a0 z_a0),.inv z_a0 (cF k a0)]) (λe=>e=r) h (λe h=>Option.some.inj h) (λK hR h=>?_) (λz4 x3 h=>?_)
 .
  refine sr (mq ?_);refine aq (nt (ah ?_));refine aC (λz6 y5=>[(0,Pt c),(7,.at (.arr 7 Tr) r1),(8,I y5)]) (λz6 y5=>[.obj c 124 (bi a0 z_a0),.inv z_a0 (cF k a0)]) (dh k a0 r1) k () a2 (λ_=>rfl) h (SE.fin [0,1] ⟨rfl,rfl,rfl,trivial⟩ rfl) (λn z6 y5 h=>?_);unfold dh at h;refine ai (sr ?_);iterate 2 refine mq ?_
  refine ja (c7 rfl) ?_;refine fl iT ?_;refine fl bL ?_;refine lo eL ?_;refine ol oC ?_;refine jb (bh rfl) ?_;refine nt (ci h (λh=>?_) (λh=>?_))
  .refine sk (cu (Z:=Unit) (α:=Unit) (λz8 x7=>[(0,Pt c),(7,.at (.arr 7 Tr) r1),(8,I y5)]) (λz8 x7=>[.obj c 124 (bi a0 z_a0),.inv z_a0 (cF k a0)]) (λe=>e=r) h (λe h=>hR e h) (λK hR h=>?_) (λz8 x7 h=>?_))
   .refine ah (ai (ai (bB ?_)));refine dm ?_;obtain⟨x9,zz,h⟩:=aa h;refine db (aU rfl zz) ?_;obtain⟨Xl,gw,h⟩:=aa h;refine db (cN (t:=Tr) rfl xR fY gw) ?_;refine da (am (t:=Tr) rfl fY rfl) ?_;refine dm ?_;obtain⟨Xk,Y,h⟩:=aa h;refine db (cN (t:=Tr) rfl xR fY Y) ?_;refine da (am (t:=Tr) rfl fY rfl) ?_;refine df cY ?_;obtain⟨Xm,l,h⟩:=aa h;refine jb (I7 rfl (ap l).1 (ap l).2) ?_;refine nt (ci h (λh=>?_) (λh=>?_))
    .refine eQ (bp (cM (ax ?_)));exact jz ((),()) h [0,1]
    .refine sk (sr (mq ?_));refine ja (c7 rfl) ?_;refine fl iT ?_;refine fl fq ?_;refine lo bR ?_;refine fZ rfl ?_;refine nt (ah (aC (λD j=>[(0,Pt c),(7,.at (.arr 7 Tr) r1),(8,I y5),(36,I a0.1),(37,I j)]) (λD j=>[.obj c 124 (bi a0 z_a0),.inv z_a0 (cF k a0)]) (co k a0 r1 y5) k () 0 (λ_=>rfl) h (SE.fin [0,1] ⟨rfl,rfl,rfl,rfl,rfl,trivial⟩ rfl) (λn D j h=>?_)));unfold co at h;refine sr (jb (bh rfl) ?_);refine nt (ai (ci h (λh=>?_) (λh=>?_)))
     .refine sk (ai (ah (sr (mq ?_))));refine aq (nt ?_);refine aE (Z:=Unit) (α:=Bool) (λy u=>[(0,Pt c),(7,.at (.arr 7 Tr) r1),(8,I y5),(36,I a0.1),(37,I j),(54,.eq (.bool u))]) (λy u=>[.obj c 124 (bi a0 z_a0),.inv z_a0 (cF k a0)]) h (λK h=>?_) (λy u h=>?_)
      .refine ae ?_;iterate 2 refine mq ?_
       obtain⟨Xj,X,h⟩:=aa h;refine jb (cN (t:=Tr) rfl xR fY X) ?_;obtain⟨Xi,U,h⟩:=aa h;refine jb (cN (t:=Ti) rfl sG bR U) ?_;refine ja (am (t:=Ti) rfl bR rfl) ?_;refine jb (bh rfl) ?_;refine mq ?_;refine bX (s:=46) rfl (λhb=>?_) (λhb=>?_)
       .replace h:=eh (va hb) h;refine gm ?_;obtain⟨Xh,Q,h⟩:=aa h;refine gb (aU rfl Q) ?_;refine gm ?_;obtain⟨Xg,O,h⟩:=aa h;refine gb (cN (t:=Tr) rfl xR fY O) ?_;obtain⟨qt,M,h⟩:=aa h;refine gb (cN (t:=Ti) rfl sG bR M) ?_;refine ga (am (t:=Ti) rfl bR rfl) ?_;refine gb (jF rfl) ?_;refine pt (nl ?_);exact jz ((),decide (qt=0)) h [0,1]
       .replace h:=cK (vb hb) h;iterate 7 refine gn ?_
        refine pf (nl ?_);exact jz ((),false) h [0,1]
      .refine cv h (λh=>?_) (λh=>?_)
       .refine sr (cq (nt (aD (br (aX (br (aX (be ?_))))))));obtain rfl:=hR _ h;exact aS () [_] 2 ⟨rfl,trivial⟩ rfl
       .refine bg (aJ (tn (ae ?_)));obtain⟨mw,J,h⟩:=aa h;refine jb (aU rfl J) ?_;refine mq (nl ?_);exact jz ((),mw) h [0,1]
     .refine eQ (bp (bp (cM (bn ?_))));exact jz ((),()) h [0,1]
   .refine ae (mq ?_);obtain⟨mc,E,h⟩:=aa h;refine jb (aU rfl E) ?_;refine aq (nl ?_);exact jz ((),mc) h [0,1]
  .refine xa ?_;exact jz ((),()) h [0,1]
 .
  refine sr (cq (nt (aD ?_)));cases h;exact aS () [_] 2 ⟨rfl,trivial⟩ rfl
def lR(k:Nat)(a0:Int)(a1:ab)(a2:Int):Option Bool:=
 (fN k a1 a0 a2).bind λr1=>
 some r1
theorem u5(k:Nat)(a0:Int)(a1:ab)(c z_a1 j:Nat)(a2:Int)(e:Nat)(r:Bool)(h:lR k a0 a1 a2=some r):
 cD (eP Tryz.prog) 38 [.eq (.int .u8 a0),Pt j,Pt e] [.obj c 124 (bi a1 z_a1),.inv z_a1 (cF k a1),.obj j 65 (Pt c),.obj e 3 (I a2)] (λ_:Unit=>(bA [.eq (.bool r)],[.obj c 124 (bi a1 z_a1),.inv z_a1 (cF k a1),.obj j 65 (Pt c),.obj e 3 (I a2)])):=by
 unfold lR at h
 replace h:=bb h
 refine cD.of 9 Tryz.func38 rfl Tryz.ntmps38 rfl λS w0=>?_
 refine sr ?_
 refine cq ?_
 refine nt ?_
 refine sr ?_
 refine fr 2 ?_
 refine lo LQ ?_
 refine mq ?_
 refine fr 3 ?_
 refine lo bR ?_
 obtain⟨r1,l,h⟩:=aa h
 have n:=pY k a1 c z_a1 a0 a2 r1 l
 refine fr 3 ?_
 refine fr 3 ?_
 refine aV (Δ:=[_,_]) (F:=_) (λ_ _ _=>aj rfl _) rfl rfl (bv [.tmp 5,.tmp 6,.tmp 7] rfl rfl Wg rfl n) ⟨rfl,rfl,rfl,trivial⟩ λ_=>?_
 refine aq ?_
 refine nt ?_
 refine aD ?_
 refine bD (SE.fin (Γ':=[(4,_)]) [0,1,3,2] ⟨rfl,trivial⟩ rfl) ?_
 cases h
 exact aS () [_] 4 ⟨rfl,trivial⟩ rfl
def cP(k:Nat)(a0:(List Int))(a1_0:ab)(a1_1:Int):Nat->Int->Option (Except Int Unit)
 |0,_=>none
 |n+1,y3=>
  if y3 < (a0.length:Int) then((aG a0 y3).bind λx5=>
  (lR k x5 a1_0 a1_1).bind λr6=>
  if r6=true then(some (.error y3)) else((ck (y3+1)).bind λx7=>
  cP k a0 a1_0 a1_1 n x7)) else(some (.ok ()))
def ip(k:Nat)(a0:(List Int))(a1_0:ab)(a1_1:Int):Option Int:=
 bE (α:=Unit) (cP k a0 a1_0 a1_1 k 0) (some) λ_=>
 some (-1:Int)
theorem pL(k:Nat)(a0:(List Int))(a1_0:ab)(b_a1_0 z_a1_0 c_a1_0:Nat)(a1_1:Int)(c_a1_1:Nat)(r:Int)(h:ip k a0 a1_0 a1_1=some r):
 cD (eP Tryz.prog) 72 [.rep (.slice (.int .u8)) a0,.eq (.func (.func 38) #[] #[(Pv c_a1_0),(Pv c_a1_1)])] [.obj b_a1_0 124 (bi a1_0 z_a1_0),.inv z_a1_0 (cF k a1_0),.obj c_a1_0 65 (Pt b_a1_0),.obj c_a1_1 3 (I a1_1)] (λ_:Unit=>(bA [I r],[.obj b_a1_0 124 (bi a1_0 z_a1_0),.inv z_a1_0 (cF k a1_0),.obj c_a1_0 65 (Pt b_a1_0),.obj c_a1_1 3 (I a1_1)])):=by
 unfold ip at h
 replace h:=bb h
 refine cD.of 19 Tryz.func72 rfl Tryz.ntmps72 rfl λS w0=>?_
 refine sr ?_
 refine cq ?_
 refine nt ?_
 refine cu (Z:=Unit) (α:=Unit) (λz2 x1=>[]) (λz2 x1=>[.obj b_a1_0 124 (bi a1_0 z_a1_0),.inv z_a1_0 (cF k a1_0),.obj c_a1_0 65 (Pt b_a1_0),.obj c_a1_1 3 (I a1_1)]) (λe=>e=r) h (λe h=>Option.some.inj h) (λK hR h=>?_) (λz2 x1 h=>?_)
 .
  refine sr (mq ?_);refine ol Di ?_;refine fZ rfl ?_;refine nt (ah (aC (λz4 y3=>[(0,.rep (.slice (.int .u8)) a0),(1,.eq (.func (.func 38) #[] #[(Pv c_a1_0),(Pv c_a1_1)])),(7,I (a0.length:Int)),(8,I y3)]) (λz4 y3=>[.obj c_a1_0 65 (Pt b_a1_0),.obj b_a1_0 124 (bi a1_0 z_a1_0),.obj c_a1_1 3 (I a1_1),.inv z_a1_0 (cF k a1_0)]) (cP k a0 a1_0 a1_1) k () 0 (λ_=>rfl) h (SE.fin [2,0,3,1] ⟨rfl,rfl,rfl,rfl,trivial⟩ rfl) (λn z4 y3 h=>?_)));unfold cP at h;refine sr (jb (bh rfl) ?_);refine nt (ai (ci h (λh=>?_) (λh=>?_)))
  .refine sk (ai (ah (sr (mq ?_))));refine aq (nt (sr ?_));iterate 3 refine mq ?_
   obtain⟨x5,j,h⟩:=aa h;refine jb (aA (t:=(.int .u8)) rfl Di rG j) ?_;refine ja (am (t:=(.int .u8)) rfl rG rfl) ?_;obtain⟨r6,l,h⟩:=aa h;refine fr 2 ?_;refine fr 1 ?_;refine fr 3 ?_;refine fr 3 ?_;refine aV (Δ:=[_,_,_,_]) (F:=_) (λ_ _ _=>aj rfl _) rfl rfl (sY (fs:=[]) (cs:=[(Pv c_a1_0),(Pv c_a1_1)]) (ags:=[.eq (.int .u8 x5)]) [.tmp 15] rfl rfl Wh rfl (u5 k x5 a1_0 b_a1_0 z_a1_0 c_a1_0 a1_1 c_a1_1 r6 l)) ⟨rfl,rfl,trivial⟩ λ_=>?_;refine nt (cv h (λh=>?_) (λh=>?_))
   .refine sr (mq ?_);refine aq (nt (aD (br (aX (be ?_)))));obtain rfl:=hR _ h;exact aS () [_] 4 ⟨rfl,trivial⟩ rfl
   .refine bg (aJ (tn (ae ?_)));obtain⟨x7,c,h⟩:=aa h;refine jb (aU rfl c) ?_;refine mq (nl ?_);exact jz ((),x7) h [2,0,3,1]
  .refine xa ?_;exact jz ((),()) h [1,3,0,2]
 .
  refine sr (cq (nt (aD ?_)));cases h;exact aS () [_] 4 ⟨rfl,trivial⟩ rfl
def c9(k:Nat)(a0:(List Int))(a1_0:ab)(a1_1:Int):Option Bool:=
 (ip k a0 a1_0 a1_1).bind λr1=>
 some (decide (0≤r1))
theorem nT(k:Nat)(a0:(List Int))(a1_0:ab)(b_a1_0 z_a1_0 c_a1_0:Nat)(a1_1:Int)(c_a1_1:Nat)(r:Bool)(h:c9 k a0 a1_0 a1_1=some r):
 cD (eP Tryz.prog) 40 [.rep (.slice (.int .u8)) a0,.eq (.func (.func 38) #[] #[(Pv c_a1_0),(Pv c_a1_1)])] [.obj b_a1_0 124 (bi a1_0 z_a1_0),.inv z_a1_0 (cF k a1_0),.obj c_a1_0 65 (Pt b_a1_0),.obj c_a1_1 3 (I a1_1)] (λ_:Unit=>(bA [.eq (.bool r)],[.obj b_a1_0 124 (bi a1_0 z_a1_0),.inv z_a1_0 (cF k a1_0),.obj c_a1_0 65 (Pt b_a1_0),.obj c_a1_1 3 (I a1_1)])):=by
 unfold c9 at h
 replace h:=bb h
 refine cD.of 9 Tryz.func40 rfl Tryz.ntmps40 rfl λS w0=>?_
 refine sr ?_
 refine cq ?_
 refine nt ?_
 refine sr ?_
 iterate 2 refine mq ?_
 obtain⟨r1,c,h⟩:=aa h
 have e:=pL k a0 a1_0 b_a1_0 z_a1_0 c_a1_0 a1_1 c_a1_1 r1 c
 refine fr 3 ?_
 refine fr 3 ?_
 refine fr 3 ?_
 refine fr 3 ?_
 refine aV (Δ:=[_,_,_,_]) (F:=_) (λ_ _ _=>aj rfl _) rfl rfl (bv [.tmp 5,.tmp 6] rfl rfl V0 rfl e) ⟨rfl,rfl,trivial⟩ λ_=>?_
 refine jb (iV rfl) ?_
 refine aq ?_
 refine nt ?_
 refine aD ?_
 cases h
 exact aS () [_] 4 ⟨rfl,trivial⟩ rfl
def kz(k:Nat)(a0:ab)(a1:Int):Option ((List Int)×Int):=
 (ky k a0 ([]:(List Int)) [a1] ([]:(List Int))).bind λr3=>
 gW r3.1 (if¬(r3.2.2=0) then(some (([]:(List Int)),r3.2.2)) else(none)) (λq4=>if¬(r3.2.2=0) then(some (([]:(List Int)),r3.2.2)) else((jJ k (pG (λ(c:(List Int)) (e:Int)=>
  (jA k a0 a1 e).bind λr=>
  gW r (none) (λs=>(c9 k r3.2.1 s a1).bind λn=>
  if¬(n=true) then((bU (aR (length c+length [e]))).bind λ_=>
  some (c++[e],true)) else(some (c,true))))) a0.1 (([]:(List Int)),false)).bind λh=>
 if h.2=true then(none) else((oU k h.1).bind λl=>
 (fL k l).bind λj=>
 some (j,0))))
theorem ry(k:Nat)(a0:ab)(a1:Int)(r:(List Int)×Int)(h:kz k a0 a1=some r):
 cD (eP Tryz.prog) 10 [.rep ak a0,I a1] [] (λ_:Unit=>(bA [.rep Tl r.1,I r.2],[])):=by
 unfold kz at h
 replace h:=bb h
 refine xd 44 Tryz.func10 rfl Tryz.ntmps10 rfl λS w0=>?_
 refine sr ?_
 refine bx λb1=>?_
 refine bx λb2=>?_
 refine cq ?_
 refine cq ?_
 refine nt ?_
 refine sr ?_
 refine fr 1 ?_
 refine lo dq ?_
 refine fr 1 ?_
 refine lo bR ?_
 refine ja (aP (t:=Ti) [(.tmp 15,_)] [a1] rfl rfl cZ (.cons rfl .int .nil) rfl rfl) ?_
 obtain⟨r3,Xg,h⟩:=aa h
 have y:=oR k a0 ([]:(List Int)) [a1] ([]:(List Int)) r3 Xg
 rcases hr:r3.1 with _ |q4
 .
  rw [hr] at h y;replace h:=xO h;refine aV (Δ:=[]) (F:=_) (λ_ _ _=>aj rfl _) rfl rfl (bW (N:=[(.tmp 14,.rep ak a0),(.const (.slice none 0 0),.eq (.slice none 0 0)),(.tmp 16,.rep Tl [a1]),(.const (.slice none 0 0),.eq (.slice none 0 0))]) (bv [.tmp 14,.const (.slice none 0 0),.tmp 16,.const (.slice none 0 0)] rfl rfl G9 rfl y) λ_ _ _ hn=>⟨hn.1,(aN (t:=Tl) (x:=([]:(List Int))) .nil rfl rfl hn.2.1),hn.2.2.1,(aN (t:=Tl) (x:=([]:(List Int))) .nil rfl rfl hn.2.2.2.1),trivial⟩) ⟨rfl,rfl,rfl,rfl,trivial⟩ λ_=>?_;refine mq ?_;refine xr ?_;refine xr ?_;refine xr ?_;refine aW rfl rfl rfl (bq rfl Lu Oo) trivial λb5=>?_;refine aq ?_;refine aO rfl rfl (aK rfl zb rfl rfl rfl) ⟨rfl,rfl,trivial⟩ ?_;refine aq (nt (ai (sr ?_)));refine mq ?_;refine jb (eT rfl) ?_;refine nt (cn h (λh=>?_) (λh=>?_))
  .refine sr (mq ?_);refine cq ?_;refine aq (nt (rx ?_));refine bD (ek (t:=Tl) (x:=([]:(List Int))) 4 rfl .nil rfl rfl) ?_;refine C0 ?_;cases h;exact rb
  .cases h
 .
  rw [hr] at h y;replace h:=xN h;refine aV (Δ:=[]) (F:=_) (λ_ _ _=>aj rfl _) rfl rfl (bW (N:=[(.tmp 14,.rep ak a0),(.const (.slice none 0 0),.eq (.slice none 0 0)),(.tmp 16,.rep Tl [a1]),(.const (.slice none 0 0),.eq (.slice none 0 0))]) (bv [.tmp 14,.const (.slice none 0 0),.tmp 16,.const (.slice none 0 0)] rfl rfl G9 rfl y) λ_ _ _ hn=>⟨hn.1,(aN (t:=Tl) (x:=([]:(List Int))) .nil rfl rfl hn.2.1),hn.2.2.1,(aN (t:=Tl) (x:=([]:(List Int))) .nil rfl rfl hn.2.2.2.1),trivial⟩) ⟨rfl,rfl,rfl,rfl,trivial⟩ λz6=>?_;refine mq ?_;refine xr ?_;refine xr ?_;refine xr ?_;refine aW rfl rfl rfl (bq rfl Lu Oo) trivial λb7=>?_;refine aq ?_;refine aO rfl rfl (aK rfl zb rfl rfl rfl) ⟨rfl,rfl,trivial⟩ ?_;refine aq (nt (ai (sr ?_)));refine mq ?_;refine jb (eT rfl) ?_;refine nt (cn h (λh=>?_) (λh=>?_))
  .refine sr (mq ?_);refine cq ?_;refine aq (nt (rx ?_));refine bD (ek (t:=Tl) (x:=([]:(List Int))) 4 rfl .nil rfl rfl) ?_;refine C0 ?_;cases h;exact rb
  .refine sk (sr (aW rfl rfl rfl (bq rfl Lu Oo) trivial λb8=>?_));refine nt (ai (sr (fl fq ?_)));refine fr 5 ?_;refine lo bR ?_;refine aW rfl rfl rfl (av [.tmp 25] rfl rfl Ub rfl (s9 a0.1)) ⟨rfl,trivial⟩ λb9=>?_;refine nt (ah (fS (SE.nil 66 (.int .u8)) ?_));refine dN 7 rfl ?_;refine dN 7 rfl ?_;refine dN 7 rfl ?_;refine dN 7 rfl ?_;refine dN 4 rfl ?_;refine dN 7 rfl ?_;refine dN 7 rfl ?_;refine dN 7 rfl ?_;obtain⟨u,qt,h⟩:=aa h;refine tw (Δ:=[.obj b9 3 (I a0.1),.obj b1 28 (.rep ak a0),.obj b8 69 (.eq (.slice none 0 0)),.sl (.slice none 0 0) 66 (.int .u8) ([]:(List Int)),.obj b7 69 (.rep (.slice (.int .u8)) r3.2.1),.obj z6.1 124 (bi q4 z6.2),.inv z6.2 (cF k q4),.obj b2 3 (I a1)]) (F:=[]) (X:=Value) (J:=λ_=>RR u.2) (E:=λc=>[.obj b9 3 (I a0.1),.obj b1 28 (.rep ak a0),.obj b8 69 (.eq c),.sl c 66 (.int .u8) u.1,.obj b7 69 (.rep (.slice (.int .u8)) r3.2.1),.obj z6.1 124 (bi q4 z6.2),.inv z6.2 (cF k q4),.obj b2 3 (I a1)]) (r0:=λ_=>.tup .any) rfl rfl TX (λrec hp ha hb hs hpe hN hv l=>?_) (λdl c=>vG (λhj=>?_) (λhj=>?_))
   .rcases rec with⟨st0,pe0,fn0,tm0,ps0,as0,bd0,df0⟩;dsimp only at hp ha hb hs hpe hN hv;subst hp hs hpe;have vN:CU tm0 [(2,Pt b1),(3,Pt b2),(7,Pt b7),(9,Pt b8)]:=⟨congrArg A.eq (hv 2 _ rfl).symm,congrArg A.eq (hv 3 _ rfl).symm,congrArg A.eq (hv 7 _ rfl).symm,congrArg A.eq (hv 9 _ rfl).symm,trivial⟩;refine cD.pick (M:=(eP Tryz.prog)) [1,0,2,3,4,5,6,7,8] [1,0,2,3,4,5,6,7,8] (qc (λ(c:Value) (q:(List Int)×Bool)=>[.raw l (.loop (ly ⟨.ready,none,fn0,tm0, #[27],as0,bd0,df0⟩ (RR q.2))),.obj b1 28 (.rep ak a0),.obj b8 69 (.eq c),.sl c 66 (.int .u8) q.1,.obj b7 69 (.rep (.slice (.int .u8)) r3.2.1),.obj z6.1 124 (bi q4 z6.2),.inv z6.2 (cF k q4),.obj b2 3 (I a1)]) l (pG (λ(n:(List Int)) (j:Int)=>
    (jA k a0 a1 j).bind λs=>
    gW s (none) (λO=>(c9 k r3.2.1 O a1).bind λD=>
    if¬(D=true) then((bU (aR (length n+length [j]))).bind λ_=>
    some (n++[j],true)) else(some (n,true))))) k a0.1 b9 (λc q p r' h=>?_) (.slice none 0 0) (([]:(List Int)),false) u qt) rfl (λ_=>rfl) (λ_=>rfl)
    obtain⟨rq,hq,h2,rfl⟩:=vH h;obtain⟨n,b5⟩:=q;obtain rfl:b5=false:=hq;replace h:=bb h2;obtain⟨j,hpv⟩:∃x,x=p:=⟨_,rfl⟩;subst hpv;refine YT.pick (R':=(λc:Value=>(.eq (.bool rq.2),[.raw l (.loop (ly ⟨.ready,none,fn0,tm0, #[27],as0,bd0,df0⟩ (RR (!rq.2)))),.obj b1 28 (.rep ak a0),.obj b8 69 (.eq c),.sl c 66 (.int .u8) rq.1,.obj b7 69 (.rep (.slice (.int .u8)) r3.2.1),.obj z6.1 124 (bi q4 z6.2),.inv z6.2 (cF k q4),.obj b2 3 (I a1)]))) [0,1,2,3,4,5,6,7] [0,1,2,3,4,5,6,7] (KE ha hb (N:=44) (Γ:=[(2,Pt b1),(3,Pt b2),(7,Pt b7),(9,Pt b8)]) rfl hN (by decide) vN (λS w=>?_)) rfl (λ_=>rfl) (λ_=>rfl);refine ae (aq (nl ?_));refine C4 rfl rfl ?_;refine ah (sr (fr 1 ?_));refine lo dq ?_;refine fr 7 ?_;refine lo bR ?_;refine mq ?_;obtain⟨s,mw,h⟩:=aa h;have e:=xH k a0 a1 j s mw;rcases hr:s with _ |O
    .rw [hr] at h e;replace h:=xO h;refine aV (Δ:=[]) (F:=_) (λ_ _ _=>aj rfl _) rfl rfl (av [.tmp 28,.tmp 29,.tmp 30] rfl rfl Ua rfl e) ⟨rfl,rfl,rfl,trivial⟩ λ_=>?_;cases h
    .rw [hr] at h e;replace h:=xN h;refine aV (Δ:=[]) (F:=_) (λ_ _ _=>aj rfl _) rfl rfl (av [.tmp 28,.tmp 29,.tmp 30] rfl rfl Ua rfl e) ⟨rfl,rfl,rfl,trivial⟩ λQ=>?_;refine aW rfl rfl rfl (bq rfl U7 Wz) trivial λzz=>?_;refine aO rfl rfl (aK rfl LQ rfl rfl rfl) ⟨rfl,rfl,trivial⟩ ?_;refine nt (sr (jb (tP [] [.tmp 11,.tmp 3] [] [(Pv zz),(Pv b2)] rfl rfl rfl) ?_));refine aq (nt (sr ?_));refine fr 8 ?_;refine lo zb ?_;refine mq ?_;obtain⟨D,mc,h⟩:=aa h;refine fr 4 ?_;refine fr 2 ?_;refine fr 4 ?_;refine fr 4 ?_;refine aV (Δ:=[_,_,_,_]) (F:=_) (λ_ _ _=>aj rfl _) rfl rfl (bv [.tmp 33,.tmp 34] rfl rfl We rfl (nT k r3.2.1 O Q.1 Q.2 zz a1 b2 D mc)) ⟨rfl,rfl,trivial⟩ λ_=>?_;refine ja (fo rfl) ?_;refine nt (cw h (λh=>?_) (λh=>?_))
     .refine ae (fr 7 ?_);refine lo zb ?_;refine mq ?_;refine ja (aP (t:=(.int .u8)) [(.tmp 38,_)] [j] rfl rfl L2 (.cons rfl .int .nil) rfl rfl) ?_;obtain⟨Xh,Y,h⟩:=aa h;refine fr 8 ?_;refine cC rfl rfl rfl (bf rfl rfl L2 (ap Y)) ⟨rfl,rfl,trivial⟩ λXe=>?_;refine nJ λo22=>?_;refine fr 1 ?_;refine aO rfl rfl (aK rfl zb o22 rfl rfl) ⟨rfl,rfl,trivial⟩ ?_;refine aH (aJ (bI 5 rfl ?_));refine bI 10 rfl ?_;refine bI 10 rfl ?_;refine bI 8 rfl ?_;refine bI 5 rfl ?_;refine bI 5 rfl ?_;refine bI 9 rfl ?_;refine bI 10 rfl ?_;cases h;exact qZ Xe 7 rfl
     .refine bg (aJ (bI 3 rfl ?_));refine bI 10 rfl ?_;refine bI 10 rfl ?_;refine bI 6 rfl ?_;refine bI 10 rfl ?_;refine bI 10 rfl ?_;refine bI 9 rfl ?_;refine bI 10 rfl ?_;cases h;exact qZ c 7 rfl
   .replace h:=cK (Lq hj) h;refine aJ (tn (sr (fr 3 ?_)));refine lo zb ?_;obtain⟨U,gw,h⟩:=aa h;refine fr 4 ?_;refine kb (kH (N:=[(.tmp 41,.eq c),(.func 42,.eq (.func (.func 42) #[] #[]))]) (av [.tmp 41,.func 42] rfl rfl Wc rfl (xI k u.1 U gw)) (λ_ _ _ hv hn=>⟨(lend hn.1 hv),hn.2.1,trivial⟩) (λ_=>⟨rfl,ou⟩)) ?_;obtain⟨Xf,Z,h⟩:=aa h;refine ja (av [.tmp 42] rfl rfl QZ rfl (lC k U Xf Z)) ?_;refine aq ?_;refine cq (nt (aD ?_));refine bI 2 rfl ?_;refine Gf ?_;cases h;exact rb
   .replace h:=eh (Lp hj) h;cases h
def gV(k:Nat)(a2:Int)(r1:(List (List Int)))(x5:Int):Nat->Int->Option (Except Int Unit)
 |0,_=>none
 |n+1,y6=>
  if y6 < x5 then((aG r1 y6).bind λx8=>
  (aG x8 a2).bind λx9=>
  if 0≤x9 then(some (.error y6)) else((ck (y6+1)).bind λc=>
  gV k a2 r1 x5 n c)) else(some (.ok ()))
def jt(k:Nat)(a0:ab)(a1:Int)(a2:Int):Option Int:=
 (mX k a0 a1).bind λr1=>
 bE (α:=Unit) ((ck ((a0.2.2.2.2.1.length:Int)+1)).bind λx5=>
 gV k a2 r1 x5 k 0) (some) λ_=>
 some (-1:Int)
theorem mB(k:Nat)(a0:ab)(c z_a0:Nat)(a1:Int)(a2:Int)(r:Int)(h:jt k a0 a1 a2=some r):
 cD (eP Tryz.prog) 77 [Pt c,.eq (.int .u8 a1),I a2] [.obj c 124 (bi a0 z_a0),.inv z_a0 (cF k a0)] (λ_:Unit=>(bA [I r],[.obj c 124 (bi a0 z_a0),.inv z_a0 (cF k a0)])):=by
 unfold jt at h
 replace h:=bb h
 refine cD.of 30 Tryz.func77 rfl Tryz.ntmps77 rfl λS w0=>?_
 refine sr ?_
 refine cq ?_
 refine nt ?_
 refine sr ?_
 iterate 2 refine mq ?_
 obtain⟨r1,D,h⟩:=aa h
 have E:=qR k a0 c z_a0 a1 r1 D
 refine fr 1 ?_
 refine fr 1 ?_
 refine aV (Δ:=[_,_]) (F:=_) (λ_ _ _=>aj rfl _) rfl rfl (bv [.tmp 9,.tmp 10] rfl rfl G7 rfl E) ⟨rfl,rfl,trivial⟩ λ_=>?_
 refine aW rfl rfl rfl (bq rfl Ax CP) trivial λb2=>?_
 refine aO rfl rfl (aK rfl AV rfl rfl rfl) ⟨rfl,rfl,trivial⟩ ?_
 refine d4 (kG (t:=(.arr 7 Tr)) (x:=r1) [7] .rep ⟨rfl,trivial⟩) ?_
 refine nt ?_
 refine cu (Z:=Unit) (α:=Unit) (λz4 x3=>[]) (λz4 x3=>[.obj c 124 (bi a0 z_a0),.inv z_a0 (cF k a0)]) (λe=>e=r) h (λe h=>Option.some.inj h) (λK hR h=>?_) (λz4 x3 h=>?_)
 .
  refine sr (mq ?_);refine ja (c7 rfl) ?_;refine fl iT ?_;refine fl bL ?_;refine lo eL ?_;refine ol oC ?_;obtain⟨x5,y,h⟩:=aa h;refine jb (aU rfl y) ?_;refine fZ rfl ?_;refine nt (ah (aC (λz7 y6=>[(2,I a2),(7,.at (.arr 7 Tr) r1),(18,I x5),(19,I y6)]) (λz7 y6=>[.obj c 124 (bi a0 z_a0),.inv z_a0 (cF k a0)]) (gV k a2 r1 x5) k () 0 (λ_=>rfl) h (SE.fin [0,1] ⟨rfl,rfl,rfl,rfl,trivial⟩ rfl) (λn z7 y6 h=>?_)));unfold gV at h;refine sr (jb (bh rfl) ?_);refine nt (ai (ci h (λh=>?_) (λh=>?_)))
  .refine sk (ai (ah (sr (mq ?_))));refine aq (nt (sr ?_));iterate 2 refine mq ?_
   obtain⟨x8,u,h⟩:=aa h;refine jb (cN (t:=Tr) rfl xR fY u) ?_;obtain⟨x9,s,h⟩:=aa h;refine jb (cN (t:=Ti) rfl sG bR s) ?_;refine ja (am (t:=Ti) rfl bR rfl) ?_;refine jb (iV rfl) ?_;refine nt (ci h (λh=>?_) (λh=>?_))
   .refine sr (mq ?_);refine aq (nt (aD (br (aX (be ?_)))));obtain rfl:=hR _ h;exact aS () [_] 2 ⟨rfl,trivial⟩ rfl
   .refine bg (aJ (tn (ae ?_)));obtain⟨l,j,h⟩:=aa h;refine jb (aU rfl j) ?_;refine mq (nl ?_);exact jz ((),l) h [0,1]
  .refine xa ?_;exact jz ((),()) h [0,1]
 .
  refine sr (cq (nt (aD ?_)));cases h;exact aS () [_] 2 ⟨rfl,trivial⟩ rfl
def lS(k:Nat)(a1:Int)(r3:(Option ab)×(List Int)×Int)(q4:ab):Nat->((List Int)×Int)->Option (List Int)
 |0,_=>none
 |n+1,y8=>
  if y8.2 < (r3.2.1.length:Int) then((((aG r3.2.1 y8.2).bind λh=>
  (jt k q4 h a1).bind λc=>
  if 0≤c then((bU (aR (length y8.1+length [c]))).bind λ_=>
  some (y8.1++[c])) else(some y8.1)):Option ((List Int))).bind λj=>
  (ck (y8.2+1)).bind λe=>
  lS k a1 r3 q4 n (j,e)) else(some y8.1)
def t7(k:Nat)(a0:ab)(a1:Int):Option (gh×Int):=
 (ky k a0 [a1] ([]:(List Int)) ([]:(List Int))).bind λr3=>
 gW r3.1 (if¬(r3.2.2=0) then(some ((0,0),r3.2.2)) else(none)) (λq4=>if¬(r3.2.2=0) then(some ((0,0),r3.2.2)) else(((lS k a1 r3 q4 k (([]:(List Int)),0)):Option ((List Int))).bind λx6=>
 if(x6.length:Int)=0 then(some ((0,0),11)) else((m9 k x6).bind λe=>
 (pK k x6).bind λc=>
 some ((e,c),0))))
theorem zA(k:Nat)(a0:ab)(a1:Int)(r:gh×Int)(h:t7 k a0 a1=some r):
 cD (eP Tryz.prog) 46 [.rep ak a0,I a1] [] (λ_:Unit=>(bA [.rep ce r.1,I r.2],[])):=by
 unfold t7 at h
 replace h:=bb h
 refine cD.of 51 Tryz.func46 rfl Tryz.ntmps46 rfl λS w0=>?_
 refine sr ?_
 refine bx λb1=>?_
 refine aW rfl rfl rfl (bq rfl Dk Uz) trivial λb2=>?_
 refine cq ?_
 refine nt ?_
 refine sr ?_
 refine fr 1 ?_
 refine lo dq ?_
 refine mq ?_
 refine ja (aP (t:=Ti) [(.tmp 15,_)] [a1] rfl rfl cZ (.cons rfl .int .nil) rfl rfl) ?_
 obtain⟨r3,Y,h⟩:=aa h
 have s:=oR k a0 [a1] ([]:(List Int)) ([]:(List Int)) r3 Y
 rcases hr:r3.1 with _ |q4
 .
  rw [hr] at h s;replace h:=xO h;refine aV (Δ:=[]) (F:=_) (λ_ _ _=>aj rfl _) rfl rfl (bW (N:=[(.tmp 14,.rep ak a0),(.tmp 16,.rep Tl [a1]),(.const (.slice none 0 0),.eq (.slice none 0 0)),(.const (.slice none 0 0),.eq (.slice none 0 0))]) (bv [.tmp 14,.tmp 16,.const (.slice none 0 0),.const (.slice none 0 0)] rfl rfl G9 rfl s) λ_ _ _ hn=>⟨hn.1,hn.2.1,(aN (t:=Tl) (x:=([]:(List Int))) .nil rfl rfl hn.2.2.1),(aN (t:=Tl) (x:=([]:(List Int))) .nil rfl rfl hn.2.2.2.1),trivial⟩) ⟨rfl,rfl,rfl,rfl,trivial⟩ λ_=>?_;refine mq ?_;refine xr ?_;refine xr ?_;refine xr ?_;refine aq ?_;refine aq ?_;refine aq (nt (ai (sr ?_)));refine mq ?_;refine jb (eT rfl) ?_;refine nt (cn h (λh=>?_) (λh=>?_))
  .refine sr (cG rfl (eU [] rfl IW Dk CN (kR trivial) rfl) trivial ?_);refine mq ?_;refine fr 1 ?_;refine aO rfl rfl (aK rfl xq trivial rfl rfl) ⟨rfl,rfl,trivial⟩ ?_;refine aq (nt (rx ?_));refine bD (gZ (a:=.agg (.pair (I 0) (I 0))) (a':=.rep ce (0,0)) (kg (.agg (.pair .int .int)))) ?_;cases h;exact aS () [.rep ce (0,0),_] 0 ⟨⟨_,_,_,_,_,rfl,(.head _),xq,(pu),rfl⟩,rfl,trivial⟩ rfl
  .cases h
 .
  rw [hr] at h s;replace h:=xN h;refine aV (Δ:=[]) (F:=_) (λ_ _ _=>aj rfl _) rfl rfl (bW (N:=[(.tmp 14,.rep ak a0),(.tmp 16,.rep Tl [a1]),(.const (.slice none 0 0),.eq (.slice none 0 0)),(.const (.slice none 0 0),.eq (.slice none 0 0))]) (bv [.tmp 14,.tmp 16,.const (.slice none 0 0),.const (.slice none 0 0)] rfl rfl G9 rfl s) λ_ _ _ hn=>⟨hn.1,hn.2.1,(aN (t:=Tl) (x:=([]:(List Int))) .nil rfl rfl hn.2.2.1),(aN (t:=Tl) (x:=([]:(List Int))) .nil rfl rfl hn.2.2.2.1),trivial⟩) ⟨rfl,rfl,rfl,rfl,trivial⟩ λz5=>?_;refine mq ?_;refine xr ?_;refine xr ?_;refine xr ?_;refine aq ?_;refine aq ?_;refine aq (nt (ai (sr ?_)));refine mq ?_;refine jb (eT rfl) ?_;refine nt (cn h (λh=>?_) (λh=>?_))
  .refine sr (cG rfl (eU [] rfl IW Dk CN (kR trivial) rfl) trivial ?_);refine mq ?_;refine fr 3 ?_;refine aO rfl rfl (aK rfl xq trivial rfl rfl) ⟨rfl,rfl,trivial⟩ ?_;refine aq (nt (rx ?_));refine bD (gZ (a:=.agg (.pair (I 0) (I 0))) (a':=.rep ce (0,0)) (kg (.agg (.pair .int .int)))) ?_;cases h;exact aS () [.rep ce (0,0),_] 0 ⟨⟨_,_,_,_,_,rfl,(.head _),xq,(pu),rfl⟩,rfl,trivial⟩ rfl
  .refine sk (sr (cq (nt ?_)));refine aE (Z:=Value) (α:=(List Int)) (λz7 x6=>[(4,Pt b2),(9,.eq z7)]) (λz7 x6=>[.obj b2 88 (.agg (.pair (I 0) (I 0))),.sl z7 3 Ti x6,.inv z5.2 (cF k q4)]) h (λK h=>?_) (λz7 x6 h=>?_)
   .refine sr (mq ?_);refine ol Di ?_;refine fZ rfl ?_;refine nt (ah (fS (SE.nil 3 Ti) ?_));refine aC (λz9 y8=>[(1,I a1),(4,Pt b2),(6,.eq (.pointer (some ⟨z5.1,0,none⟩))),(9,.eq z9),(25,.rep (.slice (.int .u8)) r3.2.1),(26,I (r3.2.1.length:Int)),(27,I y8.2)]) (λz9 y8=>[.obj b2 88 (.agg (.pair (I 0) (I 0))),.obj z5.1 124 (bi q4 z5.2),.sl z9 3 Ti y8.1,.inv z5.2 (cF k q4)]) (lS k a1 r3 q4) k (.slice none 0 0) (([]:(List Int)),0) (λ_=>rfl) h (SE.fin [4,1,0,2] ⟨rfl,rfl,rfl,rfl,rfl,rfl,rfl,trivial⟩ rfl) (λn z9 y8 h=>?_);unfold lS at h;refine sr (jb (bh rfl) ?_);refine nt (ai (ci h (λh=>?_) (λh=>?_)))
    .refine sk (aE (Z:=Value) (α:=(List Int)) (λc e=>[(1,I a1),(4,Pt b2),(6,.eq (.pointer (some ⟨z5.1,0,none⟩))),(9,.eq c),(25,.rep (.slice (.int .u8)) r3.2.1),(26,I (r3.2.1.length:Int)),(27,I y8.2)]) (λc e=>[.obj b2 88 (.agg (.pair (I 0) (I 0))),.obj z5.1 124 (bi q4 z5.2),.sl c 3 Ti e,.inv z5.2 (cF k q4)]) h (λK h=>?_) (λc e h=>?_))
     .refine ah (sr ?_);obtain⟨U,D,h⟩:=aa h;refine jb (aA (t:=(.int .u8)) rfl Di rG D) ?_;refine ja (am (t:=(.int .u8)) rfl rG rfl) ?_;refine aq (nt (sr ?_));iterate 3 refine mq ?_
      obtain⟨u,O,h⟩:=aa h;refine fr 3 ?_;refine fr 2 ?_;refine aV (Δ:=[_,_]) (F:=_) (λ_ _ _=>aj rfl _) rfl rfl (bv [.tmp 31,.tmp 32,.tmp 33] rfl rfl TV rfl (mB k q4 z5.1 z5.2 U a1 u O)) ⟨rfl,rfl,rfl,trivial⟩ λ_=>?_;refine aq (nt (sr ?_));refine mq ?_;refine jb (iV rfl) ?_;refine nt (ci h (λh=>?_) (λh=>?_))
      .refine ae ?_;iterate 2 refine mq ?_
       refine ja (aP (t:=Ti) [(.tmp 38,_)] [u] rfl rfl cZ (.cons rfl .int .nil) rfl rfl) ?_;obtain⟨gw,E,h⟩:=aa h;refine fr 3 ?_;refine cC rfl rfl rfl (bf rfl rfl cZ (ap E)) ⟨rfl,rfl,trivial⟩ λX=>?_;refine aq (aH (bn ?_));exact jz (X,y8.1++[u]) h [3,1,0,2]
      .refine bg (bn ?_);exact jz (z9,y8.1) h [2,0,3,1]
     .refine ae ?_;obtain⟨Q,y,h⟩:=aa h;refine jb (aU rfl y) ?_;refine mq (nl ?_);exact jz (c,(e,Q)) h [0,1,2,3]
    .refine xa ?_;exact jz (z9,y8.1) h [0,2,3]
   .refine ai (sr (mq ?_));refine fr 1 ?_;refine ka (oc rfl rfl gi) ?_;refine jb (jF rfl) ?_;refine nt (ci h (λh=>?_) (λh=>?_))
    .refine sr (cG rfl (eU [] rfl IW Dk CN (kR trivial) rfl) trivial ?_);refine fr 1 ?_;refine aO rfl rfl (aK rfl xq trivial rfl rfl) ⟨rfl,rfl,trivial⟩ ?_;refine cq (nt (rx ?_));refine bD (gZ (a:=.agg (.pair (I 0) (I 0))) (a':=.rep ce (0,0)) (kg (.agg (.pair .int .int)))) ?_;cases h;exact aS () [.rep ce (0,0),_] 0 ⟨⟨_,_,_,_,_,rfl,(.head _),xq,(pu),rfl⟩,rfl,trivial⟩ rfl
    .refine sk (sr (mq ?_));obtain⟨l,M,h⟩:=aa h;refine ka (kH (N:=[(.tmp 46,.eq z7)]) (av [.tmp 46] rfl rfl TU rfl (pJ k x6 l M)) (λ_ _ _ hv hn=>⟨(lend hn.1 hv),trivial⟩) (λ_=>⟨rfl,ou⟩)) ?_;refine mq ?_;obtain⟨j,J,h⟩:=aa h;refine ka (kH (N:=[(.tmp 48,.eq z7)]) (av [.tmp 48] rfl rfl VX rfl (vK k x6 j J)) (λ_ _ _ hv hn=>⟨(lend hn.1 hv),trivial⟩) (λ_=>⟨rfl,ou⟩)) ?_;refine jb (eU [(0,.tmp 47,_),(1,.tmp 49,_)] rfl IW Dk CN (kR ⟨rfl,rfl,trivial⟩) rfl) ?_;refine fr 1 ?_;refine aO rfl rfl (aK rfl xq trivial rfl rfl) ⟨rfl,rfl,trivial⟩ ?_;refine cq (nt (aD ?_));refine bD (gZ (a:=.agg (.pair (I l) (I j))) (a':=.rep ce (l,j)) (kg (.agg (.pair .int .int)))) ?_;cases h;exact aS () [.rep ce (l,j),_] 0 ⟨⟨_,_,_,_,_,rfl,(.head _),xq,(pu),rfl⟩,rfl,trivial⟩ rfl
def ir(k:Nat)(r2:(List (List Int)))(y6:Int×Int×(List (fC×fC))):Nat->Int->Option Int
 |0,_=>none
 |n+1,c=>
  ((if 0 < c then((ck (c - 1)).bind λl=>
  (aG r2 l).bind λj=>
  (aG j y6.1).bind λh=>
  some (decide (0≤h))) else(some false)):Option (Bool)).bind λr=>
  if r=true then((ck (c - 1)).bind λe=>
  ir k r2 y6 n e) else(some c)
def iu(k:Nat)(a0:ab)(r2:(List (List Int))):Nat->(Int×Int×(List (fC×fC)))->Option (List (gh×gh))
 |0,_=>none
 |n+1,y6=>
  bE (α:=Int×Int×(List (fC×fC))) (((ir k r2 y6 k y6.2.1):Option (Int)).bind λc=>
  if c=0 then((bU (AS (y6.1,y6.2.1))).bind λ_=>
  some (.error (Ee y6.2.2 (y6.1,y6.2.1) ((-1:Int),0)))) else((ck (c - 1)).bind λr=>
  (aG r2 r).bind λl=>
  (ck (c - 1)).bind λj=>
  (dP k a0 l y6.1 j).bind λh=>
  (ck (c - 1)).bind λe=>
  (bU (AS (y6.1,y6.2.1))).bind λ_=>
  some (.ok (h,e,Ee y6.2.2 (y6.1,y6.2.1) (h,e))))) (some) λx8=>
  iu k a0 r2 n (x8.1,x8.2.1,x8.2.2)
def mF(k:Nat)(a0:ab)(a1:Int)(a2:gh):Option (List (gh×gh)):=
 (mX k a0 a1).bind λr2=>
 iu k a0 r2 k (a2.1,a2.2,([]:List (fC×fC)))
theorem s8(k:Nat)(a0:ab)(c z_a0:Nat)(a1:Int)(a2:gh)(r:(List (gh×gh)))(h:mF k a0 a1 a2=some r):
 cD (eP Tryz.prog) 80 [Pt c,.eq (.int .u8 a1),.rep ce a2] [.obj c 124 (bi a0 z_a0),.inv z_a0 (cF k a0)] (λz:Nat=>(bA [.eq (.map (some z))],[.inv z (uT r),.obj c 124 (bi a0 z_a0),.inv z_a0 (cF k a0)])):=by
 unfold mF at h
 replace h:=bb h
 refine cD.of 56 Tryz.func80 rfl Tryz.ntmps80 rfl λS w0=>?_
 refine sr ?_
 refine bx λb1=>?_
 refine cq ?_
 refine nt ?_
 refine sr ?_
 iterate 2 refine mq ?_
 obtain⟨r2,Xy,h⟩:=aa h
 have Xz:=qR k a0 c z_a0 a1 r2 Xy
 refine fr 2 ?_
 refine fr 2 ?_
 refine aV (Δ:=[_,_]) (F:=_) (λ_ _ _=>aj rfl _) rfl rfl (bv [.tmp 12,.tmp 13] rfl rfl G7 rfl Xz) ⟨rfl,rfl,trivial⟩ λ_=>?_
 refine aW rfl rfl rfl (bq rfl Ax CP) trivial λb3=>?_
 refine aO rfl rfl (aK rfl AV rfl rfl rfl) ⟨rfl,rfl,trivial⟩ ?_
 refine d4 (kG (t:=(.arr 7 Tr)) (x:=r2) [7] .rep ⟨rfl,trivial⟩) ?_
 refine nt ?_
 refine sr ?_
 refine aW rfl rfl rfl (ym rfl) trivial λz4=>?_
 refine d4 (uB (uT []) LN) ?_
 refine aq ?_
 refine nt ?_
 refine sr ?_
 refine aW rfl rfl rfl (bq rfl uF CO) trivial λb5=>?_
 refine nt ?_
 refine sr ?_
 refine fl zP ?_
 refine aO rfl rfl (aK rfl bR rfl rfl rfl) ⟨rfl,rfl,trivial⟩ ?_
 refine nt ?_
 refine ah ?_
 refine dN 4 rfl ?_
 refine fS (gZ (a:=.rep ce a2) (a':=.agg (.pair (I a2.1) (I a2.2))) (AE.trans Gt (AE.agg (AE.trans C7 (AE.pair AE.int AE.int))))) ?_
 refine aC (λz7 y6=>[(0,Pt c),(5,Pt b1),(7,.at (.arr 7 Tr) r2),(8,.eq (.map (some z4))),(9,Pt b5)]) (λz7 y6=>[.obj c 124 (bi a0 z_a0),.obj b1 134 (.agg (.pair (I y6.1) (I y6.2.1))),.obj b5 134 (.agg (.pair (I (-1:Int)) (I 0))),.inv z_a0 (cF k a0),.inv z4 (uT y6.2.2)]) (iu k a0 r2) k () (a2.1,a2.2,([]:List (fC×fC))) (λ_=>rfl) h (SE.fin [3,0,1,4,2] ⟨rfl,rfl,rfl,rfl,rfl,trivial⟩ rfl) (λn z7 y6 h=>?_)
 unfold iu at h
 refine K4 (Z:=Unit) (α:=Int×Int×(List (fC×fC))) (λz9 x8=>[(0,Pt c),(5,Pt b1),(7,.at (.arr 7 Tr) r2),(8,.eq (.map (some z4))),(9,Pt b5)]) (λz9 x8=>[.obj c 124 (bi a0 z_a0),.obj b1 134 (.agg (.pair (I x8.1) (I x8.2.1))),.obj b5 134 (.agg (.pair (I (-1:Int)) (I 0))),.inv z_a0 (cF k a0),.inv z4 (uT x8.2.2)]) (λe=>e=r) h (λe h=>Option.some.inj h) (λK hR h=>?_) (λz9 x8 h=>?_)
 .
  refine ah (sr (fl NQ ?_));refine fr 1 ?_;refine lo bR ?_;refine aq (nt ?_);refine aE (Z:=Unit) (α:=Int) (λO D=>[(0,Pt c),(5,Pt b1),(7,.at (.arr 7 Tr) r2),(8,.eq (.map (some z4))),(9,Pt b5),(10,I D)]) (λO D=>[.obj c 124 (bi a0 z_a0),.obj b1 134 (.agg (.pair (I y6.1) (I y6.2.1))),.obj b5 134 (.agg (.pair (I (-1:Int)) (I 0))),.inv z_a0 (cF k a0),.inv z4 (uT y6.2.2)]) h (λK h=>?_) (λO D h=>?_)
  .refine ah (aC (λM s=>[(0,Pt c),(5,Pt b1),(7,.at (.arr 7 Tr) r2),(8,.eq (.map (some z4))),(9,Pt b5),(10,I s)]) (λM s=>[.obj c 124 (bi a0 z_a0),.obj b1 134 (.agg (.pair (I y6.1) (I y6.2.1))),.obj b5 134 (.agg (.pair (I (-1:Int)) (I 0))),.inv z_a0 (cF k a0),.inv z4 (uT y6.2.2)]) (ir k r2 y6) k () y6.2.1 (λ_=>rfl) h (SE.fin [1,0,2,3,4] ⟨rfl,rfl,rfl,rfl,rfl,rfl,trivial⟩ rfl) (λn M s h=>?_));unfold ir at h;refine ai (aE (Z:=Unit) (α:=Bool) (λJ y=>[(0,Pt c),(5,Pt b1),(7,.at (.arr 7 Tr) r2),(8,.eq (.map (some z4))),(9,Pt b5),(10,I s),(30,.eq (.bool y))]) (λJ y=>[.obj c 124 (bi a0 z_a0),.obj b1 134 (.agg (.pair (I y6.1) (I y6.2.1))),.obj b5 134 (.agg (.pair (I (-1:Int)) (I 0))),.inv z_a0 (cF k a0),.inv z4 (uT y6.2.2)]) h (λK h=>?_) (λJ y h=>?_))
   .refine bB ?_;refine dm ?_;refine db (jE rfl) ?_;refine nA rfl rfl rfl (ba rfl) ⟨rfl,trivial⟩ (λhb=>?_) (λhb=>?_)
    .replace h:=eh (va hb) h;refine bu rfl rfl rfl rfl rfl (ba rfl) ⟨rfl,rfl,trivial⟩ ?_;obtain⟨XH,Xh,h⟩:=aa h;refine bu rfl rfl rfl rfl rfl (eJ rfl Xh) ⟨rfl,rfl,rfl,trivial⟩ ?_;refine bu rfl rfl rfl rfl rfl (au rfl zP) ⟨rfl,rfl,trivial⟩ ?_;refine g9 1 rfl rfl rfl rfl rfl rfl (ao rfl bR jI rfl) ⟨rfl,rfl,trivial⟩ ?_;obtain⟨XG,Xg,h⟩:=aa h;refine bu rfl rfl rfl rfl rfl (cN (t:=Tr) rfl xR fY Xg) ⟨rfl,rfl,rfl,trivial⟩ ?_;refine df cY ?_;obtain⟨Xo,Xf,h⟩:=aa h;refine gb (cN (t:=Ti) rfl sG bR Xf) ?_;refine ga (am (t:=Ti) rfl bR rfl) ?_;refine gb (iV rfl) ?_;refine pt (nl ?_);exact jz ((),decide (0≤Xo)) h [0,1,2,3,4]
    .replace h:=cK (vb hb) h;iterate 5 refine dg ?_
     refine df cY ?_;iterate 3 refine gn ?_
     refine pf (nl ?_);exact jz ((),false) h [0,1,2,3,4]
   .refine cv h (λh=>?_) (λh=>?_)
    .refine sk (ah (ae (mq ?_)));obtain⟨Xn,Xe,h⟩:=aa h;refine jb (eJ rfl Xe) ?_;refine aq (aH (bn ?_));exact jz ((),Xn) h [0,1,2,3,4]
    .refine xa ?_;exact jz ((),s) h [0,1,2,3,4]
  .refine ai (sr (mq ?_));refine jb (jF rfl) ?_;refine nt (ci h (λh=>?_) (λh=>?_))
   .refine sr (mq ?_);refine fr 1 ?_;refine lo kQ ?_;refine fr 2 ?_;refine lo kQ ?_;refine d4 (ek (t:=ce) (x:=(y6.1,y6.2.1)) 36 rfl (.agg (.pair .int .int)) trivial rfl) ?_;obtain⟨XW,Xj,h⟩:=aa h;refine d4 (ek (t:=ce) (x:=((-1:Int),0)) 37 rfl (.agg (.pair .int .int)) trivial rfl) ?_;refine fr 4 ?_;refine aO rfl rfl (sX (K:=mf) (V:=mf) (t:=(y6.1,y6.2.1)) (n:=((-1:Int),0)) (l:=y6.2.2) (λ_ _ _ h=>oK h) rfl Hz nO (λ_ _ _ h=>oK h) (sP (ap Xj)) (sO _) sQ) ⟨rfl,rfl,rfl,trivial⟩ ?_;refine nt (sr (mq ?_));refine aq (nt (rx (br (aX ?_))));refine bD (SE.fin (Γ':=[(6,_)]) [0,3,4,1,2] ⟨rfl,trivial⟩ rfl) ?_;obtain rfl:=hR _ h;exact aS z4 [.eq (.map (some z4))] 3 ⟨rfl,trivial⟩ rfl
   .refine sk (ai (qy ?_));refine bM rfl rfl rfl (ba rfl) ⟨rfl,trivial⟩ ?_;refine bM rfl rfl rfl (ba rfl) ⟨rfl,trivial⟩ ?_;obtain⟨XF,zz,h⟩:=aa h;refine bM rfl rfl rfl (eJ rfl zz) ⟨rfl,rfl,trivial⟩ ?_;obtain⟨Xm,qt,h⟩:=aa h;refine bM rfl rfl rfl (cN (t:=Tr) rfl xR fY qt) ⟨rfl,rfl,trivial⟩ ?_;refine bM rfl rfl rfl (am (t:=Tr) rfl fY rfl) ⟨rfl,trivial⟩ ?_;refine bM rfl rfl rfl (au rfl zP) ⟨rfl,trivial⟩ ?_;refine iO 1 rfl rfl rfl rfl (ao rfl bR jI rfl) ⟨rfl,trivial⟩ ?_;refine bM rfl rfl rfl (ba rfl) ⟨rfl,trivial⟩ ?_;obtain⟨Xl,mw,h⟩:=aa h;refine bM rfl rfl rfl (eJ rfl mw) ⟨rfl,rfl,trivial⟩ ?_;obtain⟨j,Xk,h⟩:=aa h;refine iO 0 rfl rfl rfl rfl (av [.tmp 39,.tmp 43,.tmp 45,.tmp 47] rfl rfl Po rfl (pw k a0 c z_a0 Xm y6.1 Xl j Xk)) ⟨rfl,rfl,rfl,rfl,trivial⟩ ?_;refine bM rfl rfl rfl (ba rfl) ⟨rfl,trivial⟩ ?_;obtain⟨u,mc,h⟩:=aa h;refine bM rfl rfl rfl (eJ rfl mc) ⟨rfl,rfl,trivial⟩ ?_;refine bM rfl rfl rfl (eU [(0,.tmp 48,_),(1,.tmp 50,_)] rfl IX uF EJ (kR ⟨rfl,rfl,trivial⟩) rfl) ⟨rfl,rfl,trivial⟩ ?_;refine Gi (ME 134 (.agg (.pair (I 0) (I 0)))) (λ_=>rfl) rfl rfl rfl (bq rfl uF CO) trivial ?_;refine uE 14 [true,true,true,true,true,true,true,true,true,true,true,true,true,true] [] [] [] rfl (by kernel_rfl) (by kernel_rfl) (by kernel_rfl) cY (λvs hv hB=>?_);obtain⟨w0,XU,rfl,Xx⟩:=aF hv;obtain⟨w1,XT,rfl,Xw⟩:=aF Xx;obtain⟨w2,XS,rfl,Xv⟩:=aF Xw;obtain⟨w3,XR,rfl,Xu⟩:=aF Xv;obtain⟨w4,XQ,rfl,Xt⟩:=aF Xu;obtain⟨w5,XP,rfl,Xs⟩:=aF Xt;obtain⟨w6,XO,rfl,Xr⟩:=aF Xs;obtain⟨w7,XN,rfl,Xq⟩:=aF Xr;obtain⟨w8,XM,rfl,Xp⟩:=aF Xq;obtain⟨w9,XE,rfl,gw⟩:=aF Xp;obtain⟨XL,XD,rfl,Y⟩:=aF gw;obtain⟨XK,XC,rfl,X⟩:=aF Y;obtain⟨XJ,XB,rfl,U⟩:=aF X;obtain⟨XI,XA,rfl,Q⟩:=aF U;obtain rfl:=qK Q;obtain⟨E,rfl⟩:=IT hB.2.2.2.2.2.2.2.2.2.2.2.2.2.1;refine⟨[0,1,2,3,4,5],[.obj c 124 (bi a0 z_a0),.obj b1 134 (.agg (.pair (I y6.1) (I y6.2.1))),.obj b5 134 (.agg (.pair (I (-1:Int)) (I 0))),.inv z_a0 (cF k a0),.inv z4 (uT y6.2.2),.obj E 134 (.agg (.pair (I 0) (I 0)))],by kernel_rfl,by decide,?_⟩;refine qx 5 rfl ?_;refine sH rfl rfl (aK rfl kQ trivial rfl rfl) ⟨rfl,rfl,trivial⟩ (by kernel_rfl) ?_;refine wY ?_;refine bD (SE.fin (Γ':=[(0,Pt c),(5,Pt b1),(7,.at (.arr 7 Tr) r2),(8,.eq (.map (some z4))),(9,Pt b5),(11,Pt E)]) (Δ':=[.obj E 134 (.agg (.pair (I j) (I u))),.obj c 124 (bi a0 z_a0),.obj b1 134 (.agg (.pair (I y6.1) (I y6.2.1))),.obj b5 134 (.agg (.pair (I (-1:Int)) (I 0))),.inv z_a0 (cF k a0),.inv z4 (uT y6.2.2)]) [0,1,2,3,4,5] ⟨rfl,rfl,rfl,rfl,rfl,rfl,trivial⟩ rfl) ?_;refine tn (sr (mq ?_));refine fr 2 ?_;refine lo kQ ?_;refine fr 1 ?_;refine lo kQ ?_;refine d4 (ek (t:=ce) (x:=(y6.1,y6.2.1)) 53 rfl (.agg (.pair .int .int)) trivial rfl) ?_;obtain⟨XV,Xi,h⟩:=aa h;refine d4 (ek (t:=ce) (x:=(j,u)) 54 rfl (.agg (.pair .int .int)) trivial rfl) ?_;refine fr 5 ?_;refine aO rfl rfl (sX (K:=mf) (V:=mf) (t:=(y6.1,y6.2.1)) (n:=(j,u)) (l:=y6.2.2) (λ_ _ _ h=>oK h) rfl Hz nO (λ_ _ _ h=>oK h) (sP (ap Xi)) (sO _) sQ) ⟨rfl,rfl,rfl,trivial⟩ ?_
    refine nt (ae (fr 1 ?_));refine lo kQ ?_;refine fr 2 ?_;refine aO rfl rfl (aK rfl kQ trivial rfl rfl) ⟨rfl,rfl,trivial⟩ ?_;refine aH (bn ?_);exact jz ((),(j,u,Ee y6.2.2 (y6.1,y6.2.1) (j,u))) h [3,0,4,5,2]
 .
  refine ax ?_;exact jz ((),(x8.1,x8.2.1,x8.2.2)) h [0,1,2,3,4]
def lT(k:Nat)(r7:(List (gh×gh))):Nat->(Int×Int×(List Int))->Option (List Int)
 |0,_=>none
 |n+1,c=>
  (bU (AS (c.1,c.2.1))).bind λ_=>
  if¬((oW r7 (c.1,c.2.1) (0,0))=((-1:Int),0)) then((bU (AS (c.1,c.2.1))).bind λ_=>
  (bU (aR (length c.2.2+length [(oW r7 (c.1,c.2.1) (0,0)).1]))).bind λ_=>
  (bU (AS (c.1,c.2.1))).bind λ_=>
  lT k r7 n ((oW r7 (c.1,c.2.1) (0,0)).1,(oW r7 (c.1,c.2.1) (0,0)).2,c.2.2++[(oW r7 (c.1,c.2.1) (0,0)).1])) else(some c.2.2)
def t8(k:Nat)(a0:ab)(a1:(List Int))(a2:Int):Option ((List Int)×Int):=
 (kU k a0 a1 [a2] ([]:(List Int)) ([]:(List Int))).bind λr2=>
 gW r2.1 (if¬(r2.2.2=0) then(some (([]:(List Int)),r2.2.2)) else(none)) (λq3=>if¬(r2.2.2=0) then(some (([]:(List Int)),r2.2.2)) else((jt k q3 r2.2.1 a2).bind λr5=>
 if r5 < 0 then(some (([]:(List Int)),11)) else((mF k q3 r2.2.1 (a2,r5)).bind λr7=>
 ((lT k r7 k (a2,r5,[a2])):Option ((List Int))).bind λc=>
 (lw k c).bind λe=>
 some (e,0))))
theorem zC(k:Nat)(a0:ab)(a1:(List Int))(a2:Int)(r:(List Int)×Int)(h:t8 k a0 a1 a2=some r):
 cD (eP Tryz.prog) 47 [.rep ak a0,.rep Tl a1,I a2] [] (λ_:Unit=>(bA [.rep Tl r.1,I r.2],[])):=by
 unfold t8 at h
 replace h:=bb h
 refine cD.of 64 Tryz.func47 rfl Tryz.ntmps47 rfl λS w0=>?_
 refine sr ?_
 refine bx λb1=>?_
 refine cq ?_
 refine cq ?_
 refine nt ?_
 refine sr ?_
 refine lo dq ?_
 iterate 2 refine mq ?_
 refine ja (aP (t:=Ti) [(.tmp 19,_)] [a2] rfl rfl cZ (.cons rfl .int .nil) rfl rfl) ?_
 obtain⟨r2,Y,h⟩:=aa h
 have u:=nh k a0 a1 [a2] ([]:(List Int)) ([]:(List Int)) r2 Y
 rcases hr:r2.1 with _ |q3
 .
  rw [hr] at h u;replace h:=xO h;refine aV (Δ:=[]) (F:=_) (λ_ _ _=>aj rfl _) rfl rfl (bW (N:=[(.tmp 17,.rep ak a0),(.tmp 18,.rep Tl a1),(.tmp 20,.rep Tl [a2]),(.const (.slice none 0 0),.eq (.slice none 0 0)),(.const (.slice none 0 0),.eq (.slice none 0 0))]) (bv [.tmp 17,.tmp 18,.tmp 20,.const (.slice none 0 0),.const (.slice none 0 0)] rfl rfl Cb rfl u) λ_ _ _ hn=>⟨hn.1,hn.2.1,hn.2.2.1,(aN (t:=Tl) (x:=([]:(List Int))) .nil rfl rfl hn.2.2.2.1),(aN (t:=Tl) (x:=([]:(List Int))) .nil rfl rfl hn.2.2.2.2.1),trivial⟩) ⟨rfl,rfl,rfl,rfl,rfl,trivial⟩ λ_=>?_;refine mq ?_;refine xr ?_;refine xr ?_;refine xr ?_;refine aq ?_;refine aq ?_;refine aq (nt (ai (sr ?_)));refine mq ?_;refine jb (eT rfl) ?_;refine nt (cn h (λh=>?_) (λh=>?_))
  .refine sr (mq ?_);refine cq ?_;refine aq (nt (rx ?_));refine bD (ek (t:=Tl) (x:=([]:(List Int))) 6 rfl .nil rfl rfl) ?_;cases h;exact rb
  .cases h
 .
  rw [hr] at h u;replace h:=xN h;refine aV (Δ:=[]) (F:=_) (λ_ _ _=>aj rfl _) rfl rfl (bW (N:=[(.tmp 17,.rep ak a0),(.tmp 18,.rep Tl a1),(.tmp 20,.rep Tl [a2]),(.const (.slice none 0 0),.eq (.slice none 0 0)),(.const (.slice none 0 0),.eq (.slice none 0 0))]) (bv [.tmp 17,.tmp 18,.tmp 20,.const (.slice none 0 0),.const (.slice none 0 0)] rfl rfl Cb rfl u) λ_ _ _ hn=>⟨hn.1,hn.2.1,hn.2.2.1,(aN (t:=Tl) (x:=([]:(List Int))) .nil rfl rfl hn.2.2.2.1),(aN (t:=Tl) (x:=([]:(List Int))) .nil rfl rfl hn.2.2.2.2.1),trivial⟩) ⟨rfl,rfl,rfl,rfl,rfl,trivial⟩ λz4=>?_;refine mq ?_;refine xr ?_;refine xr ?_;refine xr ?_;refine aq ?_;refine aq ?_;refine aq (nt (ai (sr ?_)));refine mq ?_;refine jb (eT rfl) ?_;refine nt (cn h (λh=>?_) (λh=>?_))
  .refine sr (mq ?_);refine cq ?_;refine aq (nt (rx ?_));refine bD (ek (t:=Tl) (x:=([]:(List Int))) 6 rfl .nil rfl rfl) ?_;cases h;exact rb
  .refine sk (sr ?_);iterate 3 refine mq ?_
   obtain⟨r5,X,h⟩:=aa h;refine fr 1 ?_;refine fr 1 ?_;refine aV (Δ:=[_,_]) (F:=_) (λ_ _ _=>aj rfl _) rfl rfl (bv [.tmp 28,.tmp 29,.tmp 30] rfl rfl TV rfl (mB k q3 z4.1 z4.2 r2.2.1 a2 r5 X)) ⟨rfl,rfl,rfl,trivial⟩ λ_=>?_;refine aq (nt (ai (sr ?_)));refine mq ?_;refine jb (bh rfl) ?_;refine nt (ci h (λh=>?_) (λh=>?_))
   .refine sr (cq ?_);refine cq (nt (rx ?_));refine bD (ek (t:=Tl) (x:=([]:(List Int))) 6 rfl .nil rfl rfl) ?_;cases h;exact rb
   .refine sk (sr ?_);iterate 2 refine mq ?_
    refine jb (eU [(0,.tmp 34,_),(1,.tmp 35,_)] rfl IX uF EJ (kR ⟨rfl,rfl,trivial⟩) rfl) ?_;refine aW rfl rfl rfl (bq rfl uF CO) trivial λb6=>?_;refine aO rfl rfl (aK rfl kQ trivial rfl rfl) ⟨rfl,rfl,trivial⟩ ?_;refine nt (sr ?_);iterate 2 refine mq ?_
    refine lo kQ ?_;obtain⟨r7,U,h⟩:=aa h;refine fr 2 ?_;refine fr 2 ?_;refine aV (Δ:=[_,_]) (F:=_) (λ_ _ _=>aj rfl _) rfl rfl (bW (N:=[(.tmp 37,.eq (.pointer (some ⟨z4.1,0,none⟩))),(.tmp 38,.eq (.int .u8 r2.2.1)),(.tmp 39,.agg (.pair (I a2) (I r5)))]) (bv [.tmp 37,.tmp 38,.tmp 39] rfl rfl VV rfl (s8 k q3 z4.1 z4.2 r2.2.1 (a2,r5) r7 U)) λ_ _ _ hn=>⟨hn.1,hn.2.1,(aN (t:=ce) (x:=(a2,r5)) (.agg (.pair .int .int)) trivial rfl hn.2.2.1),trivial⟩) ⟨rfl,rfl,rfl,trivial⟩ λz8=>?_;refine aq (nt (sr ?_));refine mq ?_;refine aW rfl rfl rfl (gR (t:=Ti) [(.tmp 41,_)] [a2] rfl rfl cZ (.cons rfl .int .nil) rfl rfl) ⟨rfl,trivial⟩ λv9=>?_;refine aq (nt ?_);refine aE (Z:=Value) (α:=(List Int)) (λj s=>[(13,.eq (.map (some z8))),(14,.eq j)]) (λj s=>[.sl j 3 Ti s,.inv z4.2 (cF k q3),.inv z8 (uT r7)]) h (λK h=>?_) (λj s h=>?_)
    .refine sr (ja (eU [(0,.const (.int .i64 (-1)),_)] rfl IX uF EJ (kR ⟨rfl,trivial⟩) rfl) ?_);refine aW rfl rfl rfl (bq rfl uF CO) trivial λmc=>?_;refine aO rfl rfl (aK rfl kQ trivial rfl rfl) ⟨rfl,rfl,trivial⟩ ?_;refine nt (ah (aC (λe c=>[(12,Pt b6),(13,.eq (.map (some z8))),(14,.eq e.1),(15,.eq (.pointer (some ⟨e.2,0,none⟩)))]) (λe c=>[.obj b6 134 (.agg (.pair (I c.1) (I c.2.1))),.sl e.1 3 Ti c.2.2,.obj e.2 134 (.agg (.pair (I (-1:Int)) (I 0))),.inv z4.2 (cF k q3),.inv z8 (uT r7)]) (lT k r7) k (v9,mc) (a2,r5,[a2]) (λ_=>rfl) h (SE.fin [5,1,0,4,2] ⟨rfl,rfl,rfl,rfl,trivial⟩ rfl) (λn e c h=>?_)));unfold lT at h;refine ai (ai (bB ?_));refine dm ?_;refine ea 0 (ao rfl kQ (pu) rfl) ?_;obtain⟨zz,J,h⟩:=aa h;refine eb 4 (bW (N:=[(.tmp 44,.eq (.map (some z8))),(.tmp 45,.agg (.pair (I c.1) (I c.2.1)))]) (tQ (K:=mf) (V:=mf) (t:=(c.1,c.2.1)) (l:=r7) (λn=>.rep ce n) vF rfl Hz (0,0) vE nO (λ_ _ _ h=>oK h) (sP (ap J)) (sO _) sQ) λ_ _ _ hn=>⟨hn.1,(aN (t:=ce) (x:=(c.1,c.2.1)) (.agg (.pair .int .int)) trivial rfl hn.2.1),trivial⟩) ?_;refine ea 2 (ao rfl kQ (pu) rfl) ?_;refine df cY ?_;refine d4 (ek (t:=ce) (x:=((-1:Int),0)) 47 rfl (.agg (.pair .int .int)) trivial rfl) ?_;refine jb (I4 rfl TP rfl) ?_;refine nt (cn h (λh=>?_) (λh=>?_))
     .refine sk (ai (ah (ae ?_)));iterate 2 refine mq ?_
      refine lo kQ ?_;refine d4 (ek (t:=ce) (x:=(c.1,c.2.1)) 54 rfl (.agg (.pair .int .int)) trivial rfl) ?_;obtain⟨u16,E,h⟩:=aa h;refine fr 4 ?_;refine kb (bW (N:=[(.tmp 53,.eq (.map (some z8))),(.tmp 54,.rep ce (c.1,c.2.1))]) (tQ (K:=mf) (V:=mf) (t:=(c.1,c.2.1)) (l:=r7) (λn=>.rep ce n) vF rfl Hz (0,0) vE nO (λ_ _ _ h=>oK h) (sP (ap E)) (sO _) sQ) λ_ _ _ hn=>⟨hn.1,hn.2.1,trivial⟩) ?_;refine ja (MR rfl WE rfl bR (λ_=>rfl) rfl rfl rfl) ?_;refine ja (aP (t:=Ti) [(.tmp 56,_)] [(oW r7 (c.1,c.2.1) (0,0)).1] rfl rfl cZ (.cons rfl .int .nil) rfl rfl) ?_;obtain⟨qt,D,h⟩:=aa h;refine fr 2 ?_;refine cC rfl rfl rfl (bf rfl rfl cZ (ap D)) ⟨rfl,rfl,trivial⟩ λO=>?_;refine aq (aH (aJ (tn (ai (sr ?_)))));refine fr 3 ?_;refine lo kQ ?_;refine nt (ae (aW rfl rfl rfl (bq rfl uF CO) trivial λgw=>?_));refine aO rfl rfl (aK rfl kQ trivial rfl rfl) ⟨rfl,rfl,trivial⟩ ?_;refine nt (ae (mq ?_));refine fr 4 ?_;refine lo kQ ?_;refine d4 (ek (t:=ce) (x:=(c.1,c.2.1)) 50 rfl (.agg (.pair .int .int)) trivial rfl) ?_;obtain⟨mw,y,h⟩:=aa h;refine fr 4 ?_;refine kb (bW (N:=[(.tmp 49,.eq (.map (some z8))),(.tmp 50,.rep ce (c.1,c.2.1))]) (tQ (K:=mf) (V:=mf) (t:=(c.1,c.2.1)) (l:=r7) (λn=>.rep ce n) vF rfl Hz (0,0) vE nO (λ_ _ _ h=>oK h) (sP (ap y)) (sO _) sQ) λ_ _ _ hn=>⟨hn.1,hn.2.1,trivial⟩) ?_;refine fr 1 ?_;refine aO rfl rfl (aK rfl kQ rfl rfl rfl) ⟨rfl,rfl,trivial⟩ ?_;refine nl (bD (gZ (a:=.rep ce (oW r7 (c.1,c.2.1) (0,0))) (a':=.agg (.pair (I ((oW r7 (c.1,c.2.1) (0,0)).1)) (I ((oW r7 (c.1,c.2.1) (0,0)).2)))) (AE.trans Gt (AE.agg (AE.trans C7 (AE.pair AE.int AE.int))))) ?_);exact jz ((O,gw),((oW r7 (c.1,c.2.1) (0,0)).1,(oW r7 (c.1,c.2.1) (0,0)).2,c.2.2++[(oW r7 (c.1,c.2.1) (0,0)).1])) h [0,4,2,5,1]
     .refine xa ?_;exact jz (e.1,c.2.2) h [1,3,4]
    .refine sr (mq ?_);refine fr 2 ?_;refine aO rfl rfl (I8 rfl rfl Hz) ⟨rfl,trivial⟩ ?_;refine nt (sr (mq ?_));obtain⟨Q,M,h⟩:=aa h;refine fr 1 ?_;refine ka (av [.tmp 61] rfl rfl VU rfl (rJ k s j Q M)) ?_;refine nt (sr (mq ?_));refine aq ?_;refine cq (nt (aD ?_));refine bD (fu [6,14,61,63] ⟨rfl,rfl,rfl,rfl,trivial⟩) ?_;cases h;exact rb
def ni(k:Nat)(a0:ab)(a1:Int)(r2:(Option ab)×(List Int)×Int)(q3:ab)(y7:(List Int)×Int):Nat->(Int×Int)->Option Int
 |0,_=>none
 |n+1,c=>
  if c.2 < (r2.2.1.length:Int) then((((aG r2.2.1 c.2).bind λr=>
  (mX k q3 r).bind λu=>
  (aG u a1).bind λl=>
  (aG l y7.2).bind λj=>
  if a0.2.2.1≤j then((ck (c.1+1)).bind λh=>
  some h) else(some c.1)):Option (Int)).bind λs=>
  (ck (c.2+1)).bind λe=>
  ni k a0 a1 r2 q3 y7 n (s,e)) else(some c.1)
def nj(k:Nat)(a0:ab)(a1:Int)(r2:(Option ab)×(List Int)×Int)(q3:ab):Nat->((List Int)×Int)->Option (List Int)
 |0,_=>none
 |n+1,y7=>
  if y7.2 < a0.1 then(((((ni k a0 a1 r2 q3 y7 k (0,0)):Option (Int)).bind λc=>
  (ck ((r2.2.1.length:Int) - c)).bind λe=>
  (bU (aR (length y7.1+length [uh c e]))).bind λ_=>
  some (y7.1++[uh c e])):Option ((List Int))).bind λx9=>
  (ck (y7.2+1)).bind λh=>
  nj k a0 a1 r2 q3 n (x9,h)) else(some y7.1)
def wq(k:Nat)(a0:ab)(a1:Int):Option (Int×Int×Int):=
 (ky k a0 ([]:(List Int)) ([]:(List Int)) [a1]).bind λr2=>
 gW r2.1 (if¬(r2.2.2=0) then(some (0,0,r2.2.2)) else(none)) (λq3=>if¬(r2.2.2=0) then(some (0,0,r2.2.2)) else(((nj k a0 a1 r2 q3 k (([]:(List Int)),0)):Option ((List Int))).bind λx5=>
 (m9 k x5).bind λc=>
 if(r2.2.1.length:Int)≤c then(some (0,0,11)) else((ig k x5 c).bind λe=>
 some (e,c,0))))
theorem Bw(k:Nat)(a0:ab)(a1:Int)(r:Int×Int×Int)(h:wq k a0 a1=some r):
 cD (eP Tryz.prog) 48 [.rep ak a0,I a1] [] (λ_:Unit=>(bA [I r.1,I r.2.1,I r.2.2],[])):=by
 unfold wq at h
 replace h:=bb h
 refine cD.of 71 Tryz.func48 rfl Tryz.ntmps48 rfl λS w0=>?_
 refine sr ?_
 refine bx λb1=>?_
 refine cq ?_
 refine cq ?_
 refine cq ?_
 refine nt ?_
 refine sr ?_
 refine lo dq ?_
 refine mq ?_
 refine ja (aP (t:=Ti) [(.tmp 18,_)] [a1] rfl rfl cZ (.cons rfl .int .nil) rfl rfl) ?_
 obtain⟨r2,Xl,h⟩:=aa h
 have s:=oR k a0 ([]:(List Int)) ([]:(List Int)) [a1] r2 Xl
 rcases hr:r2.1 with _ |q3
 .
  rw [hr] at h s;replace h:=xO h;refine aV (Δ:=[]) (F:=_) (λ_ _ _=>aj rfl _) rfl rfl (bW (N:=[(.tmp 17,.rep ak a0),(.const (.slice none 0 0),.eq (.slice none 0 0)),(.const (.slice none 0 0),.eq (.slice none 0 0)),(.tmp 19,.rep Tl [a1])]) (bv [.tmp 17,.const (.slice none 0 0),.const (.slice none 0 0),.tmp 19] rfl rfl G9 rfl s) λ_ _ _ hn=>⟨hn.1,(aN (t:=Tl) (x:=([]:(List Int))) .nil rfl rfl hn.2.1),(aN (t:=Tl) (x:=([]:(List Int))) .nil rfl rfl hn.2.2.1),hn.2.2.2.1,trivial⟩) ⟨rfl,rfl,rfl,rfl,trivial⟩ λ_=>?_;refine mq ?_;refine xr ?_;refine xr ?_;refine xr ?_;refine aq ?_;refine aq ?_;refine aq (nt (ai (sr ?_)));refine mq ?_;refine jb (eT rfl) ?_;refine nt (cn h (λh=>?_) (λh=>?_))
  .refine sr (mq ?_);refine cq ?_;refine cq ?_;refine aq (nt (rx ?_));cases h;exact aS () [_,_,_] 0 ⟨rfl,rfl,rfl,trivial⟩ rfl
  .cases h
 .
  rw [hr] at h s;replace h:=xN h;refine aV (Δ:=[]) (F:=_) (λ_ _ _=>aj rfl _) rfl rfl (bW (N:=[(.tmp 17,.rep ak a0),(.const (.slice none 0 0),.eq (.slice none 0 0)),(.const (.slice none 0 0),.eq (.slice none 0 0)),(.tmp 19,.rep Tl [a1])]) (bv [.tmp 17,.const (.slice none 0 0),.const (.slice none 0 0),.tmp 19] rfl rfl G9 rfl s) λ_ _ _ hn=>⟨hn.1,(aN (t:=Tl) (x:=([]:(List Int))) .nil rfl rfl hn.2.1),(aN (t:=Tl) (x:=([]:(List Int))) .nil rfl rfl hn.2.2.1),hn.2.2.2.1,trivial⟩) ⟨rfl,rfl,rfl,rfl,trivial⟩ λz4=>?_;refine mq ?_;refine xr ?_;refine xr ?_;refine xr ?_;refine aq ?_;refine aq ?_;refine aq (nt (ai (sr ?_)));refine mq ?_;refine jb (eT rfl) ?_;refine nt (cn h (λh=>?_) (λh=>?_))
  .refine sr (mq ?_);refine cq ?_;refine cq ?_;refine aq (nt (rx ?_));cases h;exact aS () [_,_,_] 0 ⟨rfl,rfl,rfl,trivial⟩ rfl
  .refine sk (sr (cq (nt ?_)));refine aE (Z:=Value) (α:=(List Int)) (λz6 x5=>[(8,.rep (.slice (.int .u8)) r2.2.1),(10,.eq z6)]) (λz6 x5=>[.sl z6 3 Ti x5,.inv z4.2 (cF k q3)]) h (λK h=>?_) (λz6 x5 h=>?_)
   .refine sr (fl fq ?_);refine fr 2 ?_;refine lo bR ?_;refine fZ rfl ?_;refine nt (ah (fS (SE.nil 3 Ti) ?_));refine aC (λz8 y7=>[(1,I a1),(2,Pt b1),(7,.eq (.pointer (some ⟨z4.1,0,none⟩))),(8,.rep (.slice (.int .u8)) r2.2.1),(10,.eq z8),(28,I a0.1),(29,I y7.2)]) (λz8 y7=>[.obj b1 28 (.rep ak a0),.obj z4.1 124 (bi q3 z4.2),.sl z8 3 Ti y7.1,.inv z4.2 (cF k q3)]) (nj k a0 a1 r2 q3) k (.slice none 0 0) (([]:(List Int)),0) (λ_=>rfl) h (SE.fin [1,2,0,3] ⟨rfl,rfl,rfl,rfl,rfl,rfl,rfl,trivial⟩ rfl) (λn z8 y7 h=>?_);unfold nj at h;refine sr (jb (bh rfl) ?_);refine nt (ai (ci h (λh=>?_) (λh=>?_)))
    .refine sk (aE (Z:=Value) (α:=(List Int)) (λe x9=>[(1,I a1),(2,Pt b1),(7,.eq (.pointer (some ⟨z4.1,0,none⟩))),(8,.rep (.slice (.int .u8)) r2.2.1),(10,.eq e),(28,I a0.1),(29,I y7.2)]) (λe x9=>[.obj b1 28 (.rep ak a0),.obj z4.1 124 (bi q3 z4.2),.sl e 3 Ti x9,.inv z4.2 (cF k q3)]) h (λK h=>?_) (λe x9 h=>?_))
     .refine ah (sr (mq ?_));refine aq (nt (sr ?_));refine cq (nt ?_);refine aE (Z:=Unit) (α:=Int) (λE j=>[(1,I a1),(2,Pt b1),(7,.eq (.pointer (some ⟨z4.1,0,none⟩))),(8,.rep (.slice (.int .u8)) r2.2.1),(10,.eq z8),(12,I j),(28,I a0.1),(29,I y7.2)]) (λE j=>[.obj b1 28 (.rep ak a0),.obj z4.1 124 (bi q3 z4.2),.sl z8 3 Ti y7.1,.inv z4.2 (cF k q3)]) h (λK h=>?_) (λE j h=>?_)
      .refine sr (mq ?_);refine ol Di ?_;refine fZ rfl ?_;refine nt (ah (aC (λD c=>[(1,I a1),(2,Pt b1),(7,.eq (.pointer (some ⟨z4.1,0,none⟩))),(8,.rep (.slice (.int .u8)) r2.2.1),(10,.eq z8),(11,I y7.2),(12,I c.1),(28,I a0.1),(29,I y7.2),(32,.rep (.slice (.int .u8)) r2.2.1),(33,I (r2.2.1.length:Int)),(34,I c.2)]) (λD c=>[.obj b1 28 (.rep ak a0),.obj z4.1 124 (bi q3 z4.2),.sl z8 3 Ti y7.1,.inv z4.2 (cF k q3)]) (ni k a0 a1 r2 q3 y7) k () (0,0) (λ_=>rfl) h (SE.fin [0,1,2,3] ⟨rfl,rfl,rfl,rfl,rfl,rfl,rfl,rfl,rfl,rfl,rfl,rfl,trivial⟩ rfl) (λn D c h=>?_)));unfold ni at h;refine sr (jb (bh rfl) ?_);refine nt (ai (ci h (λh=>?_) (λh=>?_)))
       .refine sk (aE (Z:=Unit) (α:=Int) (λy l=>[(1,I a1),(2,Pt b1),(7,.eq (.pointer (some ⟨z4.1,0,none⟩))),(8,.rep (.slice (.int .u8)) r2.2.1),(10,.eq z8),(11,I y7.2),(12,I l),(28,I a0.1),(29,I y7.2),(32,.rep (.slice (.int .u8)) r2.2.1),(33,I (r2.2.1.length:Int)),(34,I c.2)]) (λy l=>[.obj b1 28 (.rep ak a0),.obj z4.1 124 (bi q3 z4.2),.sl z8 3 Ti y7.1,.inv z4.2 (cF k q3)]) h (λK h=>?_) (λy l h=>?_))
        .refine ah (sr ?_);obtain⟨Xh,gw,h⟩:=aa h;refine jb (aA (t:=(.int .u8)) rfl Di rG gw) ?_;refine ja (am (t:=(.int .u8)) rfl rG rfl) ?_;refine aq (nt (ai ?_));refine bB ?_;refine dm ?_;refine dm ?_;obtain⟨Xk,zz,h⟩:=aa h;refine RG 1 3 rfl rfl (by kernel_rfl) rfl rfl rfl (bv [.tmp 38,.tmp 39] rfl rfl G7 rfl (qR k q3 z4.1 z4.2 Xh Xk zz)) ⟨rfl,rfl,trivial⟩ ?_;refine dm ?_;obtain⟨Xn,Y,h⟩:=aa h;refine db (pU (t:=Tr) rfl xR fY rfl rfl (pu) Y) ?_;refine dm ?_;obtain⟨Xm,X,h⟩:=aa h;refine db (pU (t:=Ti) rfl sG bR rfl rfl (λ_=>rfl) X) ?_;refine da (au rfl sw) ?_;refine ea 0 (ao rfl bR jI rfl) ?_;refine df cY ?_;refine jb (iV rfl) ?_;refine nt (ci h (λh=>?_) (λh=>?_))
         .refine ae (mq ?_);obtain⟨Xg,U,h⟩:=aa h;refine jb (aU rfl U) ?_;refine aq (aH (bn ?_));exact jz ((),Xg) h [0,1,2,3]
         .refine bg (bn ?_);exact jz ((),c.1) h [0,1,2,3]
        .refine ae ?_;obtain⟨Xf,Q,h⟩:=aa h;refine jb (aU rfl Q) ?_;refine mq (nl ?_);exact jz ((),(l,Xf)) h [0,1,2,3]
       .refine xa ?_;exact jz ((),c.1) h [0,1,2,3]
      .refine ae ?_;iterate 3 refine mq ?_
       refine ol Di ?_;refine mq ?_;obtain⟨J,O,h⟩:=aa h;refine jb (eJ rfl O) ?_;refine jb (I5 rfl rfl) ?_;refine ja (aP (t:=Ti) [(.tmp 57,_)] [uh j J] rfl rfl cZ (.cons rfl .int .nil) rfl rfl) ?_;obtain⟨Xo,mc,h⟩:=aa h;refine fr 2 ?_;refine cC rfl rfl rfl (bf rfl rfl cZ (ap mc)) ⟨rfl,rfl,trivial⟩ λXi=>?_;refine aq (aH (bn ?_));exact jz (Xi,y7.1++[uh j J]) h [1,2,0,3]
     .refine ae ?_;obtain⟨Xe,M,h⟩:=aa h;refine jb (aU rfl M) ?_;refine mq (nl ?_);exact jz (e,(x9,Xe)) h [0,1,2,3]
    .refine xa ?_;exact jz (z8,y7.1) h [2,3]
   .refine sr (mq ?_);obtain⟨u,qt,h⟩:=aa h;refine ka (kH (N:=[(.tmp 61,.eq z6)]) (av [.tmp 61] rfl rfl TU rfl (pJ k x5 u qt)) (λ_ _ _ hv hn=>⟨(lend hn.1 hv),trivial⟩) (λ_=>⟨rfl,ou⟩)) ?_;refine aq (nt (ai (sr ?_)));iterate 2 refine mq ?_
    refine ol Di ?_;refine jb (iV rfl) ?_;refine nt (ci h (λh=>?_) (λh=>?_))
    .refine sr (cq ?_);refine cq ?_;refine cq (nt (rx ?_));cases h;exact aS () [_,_,_] 0 ⟨rfl,rfl,rfl,trivial⟩ rfl
    .refine sk (sr ?_);iterate 2 refine mq ?_
     obtain⟨Xj,mw,h⟩:=aa h;refine kb (kH (N:=[(.tmp 67,.eq z6),(.tmp 68,I u)]) (av [.tmp 67,.tmp 68] rfl rfl TS rfl (nS k x5 u Xj mw)) (λ_ _ _ hv hn=>⟨(lend hn.1 hv),hn.2.1,trivial⟩) (λ_=>⟨rfl,ou⟩)) ?_;refine mq ?_;refine aq ?_;refine aq ?_;refine cq (nt (aD ?_));cases h;exact aS () [_,_,_] 0 ⟨rfl,rfl,rfl,trivial⟩ rfl
def qf(k:Nat):Option Bool:=
 (jL k ([]:(List aQ))).bind λr1=>
 (rY k r1 [0]).bind λr2=>
 (jL k ([]:(List aQ))).bind λr3=>
 (rZ k r3).bind λr4=>
 (jL k ([]:(List aQ))).bind λr5=>
 (t7 k r5 2).bind λr6=>
 (jL k ([]:(List aQ))).bind λr8=>
 (t8 k r8 [0] 3).bind λr9=>
 (jL k ([]:(List aQ))).bind λu=>
 (wq k u 2).bind λc=>
 (jL k ([]:(List aQ))).bind λs=>
 (kz k s 2).bind λe=>
 ((if r2.2=0 then(if r4.2=0 then(if r6.2=0 then(if r9.2=0 then(if c.2.2=0 then(if e.2=0 then(if r6.1=(1,3) then(if c.1=2 then(if c.2.1=2 then((fV k r2.1 [[1,(-1:Int),(-1:Int),(-1:Int)],[2,0,(-1:Int),(-1:Int)],[3,1,(-1:Int),(-1:Int)],[3,2,0,(-1:Int)],[(-1:Int),3,1,0]]).bind λr=>
 if r=true then((fV k r4.1 [[0],[0,1],[1]]).bind λn=>
 if n=true then((fQ k r9.1 [0,1,3]).bind λl=>
 if l=true then((fQ k e.1 [1,2]).bind λj=>
 some j) else(some false)) else(some false)) else(some false)) else(some false)) else(some false)) else(some false)) else(some false)) else(some false)) else(some false)) else(some false)) else(some false)) else(some false)):Option (Bool)).bind λh=>
 some h
theorem uM(k:Nat)(r:Bool)(h:qf k=some r):
 cD (eP Tryz.prog) 15 [] [] (λ_:Unit=>(bA [.eq (.bool r)],[])):=by
 unfold qf at h
 replace h:=bb h
 refine cD.of 110 Tryz.func15 rfl Tryz.ntmps15 rfl λS w0=>?_
 refine sr ?_
 refine cq ?_
 refine nt ?_
 refine sr ?_
 obtain⟨r1,Xk,h⟩:=aa h
 have Xs:=iS k ([]:(List aQ)) r1 Xk
 refine ja (bW (N:=[(.const (.slice none 0 0),.eq (.slice none 0 0))]) (av [.const (.slice none 0 0)] rfl rfl G8 rfl Xs) λ_ _ _ hn=>⟨(aN (t:=(.slice aI)) (x:=([]:(List aQ))) .nil rfl rfl hn.1),trivial⟩) ?_
 refine ja (aP (t:=Ti) [(.const (.int .i64 (0)),_)] [0] rfl rfl cZ (.cons rfl .int .nil) rfl rfl) ?_
 obtain⟨r2,Xj,h⟩:=aa h
 have Xr:=xJ k r1 [0] r2 Xj
 refine jb (bv [.tmp 15,.tmp 16] rfl rfl Wm rfl Xr) ?_
 refine mq ?_
 refine xr ?_
 refine xr ?_
 refine aq ?_
 refine aq ?_
 refine nt ?_
 refine sr ?_
 obtain⟨r3,Xi,h⟩:=aa h
 have Xq:=iS k ([]:(List aQ)) r3 Xi
 refine ja (bW (N:=[(.const (.slice none 0 0),.eq (.slice none 0 0))]) (av [.const (.slice none 0 0)] rfl rfl G8 rfl Xq) λ_ _ _ hn=>⟨(aN (t:=(.slice aI)) (x:=([]:(List aQ))) .nil rfl rfl hn.1),trivial⟩) ?_
 obtain⟨r4,Xh,h⟩:=aa h
 have Xp:=xK k r3 r4 Xh
 refine ja (bv [.tmp 21] rfl rfl W6 rfl Xp) ?_
 refine mq ?_
 refine xr ?_
 refine xr ?_
 refine aq ?_
 refine aq ?_
 refine nt ?_
 refine sr ?_
 obtain⟨r5,Xg,h⟩:=aa h
 have Xo:=iS k ([]:(List aQ)) r5 Xg
 refine ja (bW (N:=[(.const (.slice none 0 0),.eq (.slice none 0 0))]) (av [.const (.slice none 0 0)] rfl rfl G8 rfl Xo) λ_ _ _ hn=>⟨(aN (t:=(.slice aI)) (x:=([]:(List aQ))) .nil rfl rfl hn.1),trivial⟩) ?_
 obtain⟨r6,Xf,h⟩:=aa h
 have Xn:=zA k r5 2 r6 Xf
 refine jb (bv [.tmp 26,.const (.int .i64 (2))] rfl rfl Wb rfl Xn) ?_
 refine mq ?_
 refine xr ?_
 refine xr ?_
 refine aW rfl rfl rfl (bq rfl Dk Uz) trivial λb7=>?_
 refine aO rfl rfl (aK rfl xq rfl rfl rfl) ⟨rfl,rfl,trivial⟩ ?_
 refine aq ?_
 refine nt ?_
 refine sr ?_
 obtain⟨r8,Xe,h⟩:=aa h
 have Xm:=iS k ([]:(List aQ)) r8 Xe
 refine ja (bW (N:=[(.const (.slice none 0 0),.eq (.slice none 0 0))]) (av [.const (.slice none 0 0)] rfl rfl G8 rfl Xm) λ_ _ _ hn=>⟨(aN (t:=(.slice aI)) (x:=([]:(List aQ))) .nil rfl rfl hn.1),trivial⟩) ?_
 refine ja (aP (t:=Ti) [(.const (.int .i64 (0)),_)] [0] rfl rfl cZ (.cons rfl .int .nil) rfl rfl) ?_
 obtain⟨r9,zz,h⟩:=aa h
 have Xl:=zC k r8 [0] 3 r9 zz
 refine jc (bv [.tmp 31,.tmp 32,.const (.int .i64 (3))] rfl rfl Wa rfl Xl) ?_
 refine mq ?_
 refine xr ?_
 refine xr ?_
 refine aq ?_
 refine aq ?_
 refine nt ?_
 refine sr ?_
 obtain⟨u,O,h⟩:=aa h
 have Y:=iS k ([]:(List aQ)) u O
 refine ja (bW (N:=[(.const (.slice none 0 0),.eq (.slice none 0 0))]) (av [.const (.slice none 0 0)] rfl rfl G8 rfl Y) λ_ _ _ hn=>⟨(aN (t:=(.slice aI)) (x:=([]:(List aQ))) .nil rfl rfl hn.1),trivial⟩) ?_
 obtain⟨qt,M,h⟩:=aa h
 have X:=Bw k u 2 qt M
 refine jb (bv [.tmp 37,.const (.int .i64 (2))] rfl rfl V9 rfl X) ?_
 refine mq ?_
 refine xr ?_
 refine xr ?_
 refine xr ?_
 refine aq ?_
 refine aq ?_
 refine aq ?_
 refine nt ?_
 refine sr ?_
 obtain⟨n,J,h⟩:=aa h
 have U:=iS k ([]:(List aQ)) n J
 refine ja (bW (N:=[(.const (.slice none 0 0),.eq (.slice none 0 0))]) (av [.const (.slice none 0 0)] rfl rfl G8 rfl U) λ_ _ _ hn=>⟨(aN (t:=(.slice aI)) (x:=([]:(List aQ))) .nil rfl rfl hn.1),trivial⟩) ?_
 obtain⟨l,I,h⟩:=aa h
 have Q:=ry k n 2 l I
 refine jb (bv [.tmp 43,.const (.int .i64 (2))] rfl rfl Us rfl Q) ?_
 refine mq ?_
 refine xr ?_
 refine xr ?_
 refine aq ?_
 refine aq ?_
 refine nt ?_
 refine aE (Z:=Unit) (α:=Bool) (λe c=>[(0,.eq (.bool c))]) (λe c=>[]) h (λK h=>?_) (λe c h=>?_)
 .
  refine ae (mq ?_);refine jb (jF rfl) ?_;refine mq ?_;refine bX (s:=49) rfl (λhb=>?_) (λhb=>?_)
  .replace h:=eh (va hb) h;refine gm ?_;refine gb (jF rfl) ?_;refine pt ?_;refine mq ?_;refine bX (s:=53) rfl (λhb=>?_) (λhb=>?_)
   .replace h:=eh (va hb) h;refine gm ?_;refine gb (jF rfl) ?_;refine pt ?_;refine mq ?_;refine bX (s:=57) rfl (λhb=>?_) (λhb=>?_)
    .replace h:=eh (va hb) h;refine gm ?_;refine gb (jF rfl) ?_;refine pt ?_;refine mq ?_;refine bX (s:=61) rfl (λhb=>?_) (λhb=>?_)
     .replace h:=eh (va hb) h;refine gm ?_;refine gb (jF rfl) ?_;refine pt ?_;refine mq ?_;refine bX (s:=65) rfl (λhb=>?_) (λhb=>?_)
      .replace h:=eh (va hb) h;refine gm ?_;refine gb (jF rfl) ?_;refine pt ?_;refine mq ?_;refine bX (s:=69) rfl (λhb=>?_) (λhb=>?_)
       .replace h:=eh (va hb) h;refine eX rfl rfl rfl rfl rfl rfl (ao rfl xq (pu) rfl) ⟨rfl,trivial⟩ ?_;refine gb (eU [(0,.const (.int .i64 (1)),_),(1,.const (.int .i64 (3)),_)] rfl IW Dk CN (kR ⟨rfl,rfl,trivial⟩) rfl) ?_;refine d4 (ek (t:=ce) (x:=(1,3)) 71 rfl (.agg (.pair .int .int)) trivial rfl) ?_;refine gb (Qv rfl VJ rfl) ?_;refine pt ?_;refine mq ?_;refine bX (s:=74) rfl (λhb=>?_) (λhb=>?_)
        .replace h:=eh (va hb) h;refine gm ?_;refine gb (jF rfl) ?_;refine pt ?_;refine mq ?_;refine bX (s:=78) rfl (λhb=>?_) (λhb=>?_)
         .replace h:=eh (va hb) h;refine gm ?_;refine gb (jF rfl) ?_;refine pt ?_;refine mq ?_;refine bX (s:=82) rfl (λhb=>?_) (λhb=>?_)
          .replace h:=eh (va hb) h;refine gm ?_;refine nK rfl rfl rfl rfl rfl rfl (aP (t:=Ti) [(.const (.int .i64 (1)),_),(.const (.int .i64 (-1)),_),(.const (.int .i64 (-1)),_),(.const (.int .i64 (-1)),_)] [1,(-1:Int),(-1:Int),(-1:Int)] rfl rfl cZ (.cons rfl .int (.cons rfl .int (.cons rfl .int (.cons rfl .int .nil)))) rfl rfl) ⟨rfl,rfl,rfl,rfl,trivial⟩ ?_;refine nK rfl rfl rfl rfl rfl rfl (aP (t:=Ti) [(.const (.int .i64 (2)),_),(.const (.int .i64 (0)),_),(.const (.int .i64 (-1)),_),(.const (.int .i64 (-1)),_)] [2,0,(-1:Int),(-1:Int)] rfl rfl cZ (.cons rfl .int (.cons rfl .int (.cons rfl .int (.cons rfl .int .nil)))) rfl rfl) ⟨rfl,rfl,rfl,rfl,trivial⟩ ?_;refine nK rfl rfl rfl rfl rfl rfl (aP (t:=Ti) [(.const (.int .i64 (3)),_),(.const (.int .i64 (1)),_),(.const (.int .i64 (-1)),_),(.const (.int .i64 (-1)),_)] [3,1,(-1:Int),(-1:Int)] rfl rfl cZ (.cons rfl .int (.cons rfl .int (.cons rfl .int (.cons rfl .int .nil)))) rfl rfl) ⟨rfl,rfl,rfl,rfl,trivial⟩ ?_;refine nK rfl rfl rfl rfl rfl rfl (aP (t:=Ti) [(.const (.int .i64 (3)),_),(.const (.int .i64 (2)),_),(.const (.int .i64 (0)),_),(.const (.int .i64 (-1)),_)] [3,2,0,(-1:Int)] rfl rfl cZ (.cons rfl .int (.cons rfl .int (.cons rfl .int (.cons rfl .int .nil)))) rfl rfl) ⟨rfl,rfl,rfl,rfl,trivial⟩ ?_;refine nK rfl rfl rfl rfl rfl rfl (aP (t:=Ti) [(.const (.int .i64 (-1)),_),(.const (.int .i64 (3)),_),(.const (.int .i64 (1)),_),(.const (.int .i64 (0)),_)] [(-1:Int),3,1,0] rfl rfl cZ (.cons rfl .int (.cons rfl .int (.cons rfl .int (.cons rfl .int .nil)))) rfl rfl) ⟨rfl,rfl,rfl,rfl,trivial⟩ ?_;refine nK rfl rfl rfl rfl rfl rfl (aP (t:=Tl) [(.tmp 84,_),(.tmp 85,_),(.tmp 86,_),(.tmp 87,_),(.tmp 88,_)] [[1,(-1:Int),(-1:Int),(-1:Int)],[2,0,(-1:Int),(-1:Int)],[3,1,(-1:Int),(-1:Int)],[3,2,0,(-1:Int)],[(-1:Int),3,1,0]] rfl rfl kj (.cons rfl .rep (.cons rfl .rep (.cons rfl .rep (.cons rfl .rep (.cons rfl .rep .nil))))) rfl rfl) ⟨rfl,rfl,rfl,rfl,rfl,trivial⟩ ?_;obtain⟨mw,F,h⟩:=aa h;refine gb (av [.tmp 83,.tmp 89] rfl rfl Q0 rfl (kC k r2.1 [[1,(-1:Int),(-1:Int),(-1:Int)],[2,0,(-1:Int),(-1:Int)],[3,1,(-1:Int),(-1:Int)],[3,2,0,(-1:Int)],[(-1:Int),3,1,0]] mw F)) ?_;refine pt ?_;refine mq ?_;refine bX (s:=92) rfl (λhb=>?_) (λhb=>?_)
           .replace h:=eh (Lp hb) h;refine gm ?_;refine ga (aP (t:=Ti) [(.const (.int .i64 (0)),_)] [0] rfl rfl cZ (.cons rfl .int .nil) rfl rfl) ?_;refine gb (aP (t:=Ti) [(.const (.int .i64 (0)),_),(.const (.int .i64 (1)),_)] [0,1] rfl rfl cZ (.cons rfl .int (.cons rfl .int .nil)) rfl rfl) ?_;refine ga (aP (t:=Ti) [(.const (.int .i64 (1)),_)] [1] rfl rfl cZ (.cons rfl .int .nil) rfl rfl) ?_;refine gc (aP (t:=Tl) [(.tmp 94,_),(.tmp 95,_),(.tmp 96,_)] [[0],[0,1],[1]] rfl rfl kj (.cons rfl .rep (.cons rfl .rep (.cons rfl .rep .nil))) rfl rfl) ?_;obtain⟨mc,E,h⟩:=aa h;refine gb (av [.tmp 93,.tmp 97] rfl rfl Q0 rfl (kC k r4.1 [[0],[0,1],[1]] mc E)) ?_;refine pt ?_;refine mq ?_;refine bX (s:=100) rfl (λhb=>?_) (λhb=>?_)
            .replace h:=eh (Lp hb) h;refine gm ?_;refine gc (aP (t:=Ti) [(.const (.int .i64 (0)),_),(.const (.int .i64 (1)),_),(.const (.int .i64 (3)),_)] [0,1,3] rfl rfl cZ (.cons rfl .int (.cons rfl .int (.cons rfl .int .nil))) rfl rfl) ?_;obtain⟨gw,D,h⟩:=aa h;refine gb (av [.tmp 101,.tmp 102] rfl rfl NV rfl (jw k r9.1 [0,1,3] gw D)) ?_;refine pt ?_;refine mq ?_;refine bX (s:=105) rfl (λhb=>?_) (λhb=>?_)
             .replace h:=eh (Lp hb) h;refine gm ?_;refine gb (aP (t:=Ti) [(.const (.int .i64 (1)),_),(.const (.int .i64 (2)),_)] [1,2] rfl rfl cZ (.cons rfl .int (.cons rfl .int .nil)) rfl rfl) ?_;obtain⟨j,y,h⟩:=aa h;refine gb (av [.tmp 106,.tmp 107] rfl rfl NV rfl (jw k l.1 [1,2] j y)) ?_;refine pt ?_;refine aq (nl ?_);exact jz ((),j) h []
             .replace h:=cK (Lq hb) h;iterate 3 refine gn ?_
              refine pf ?_;refine aq (nl ?_);exact jz ((),false) h []
            .replace h:=cK (Lq hb) h;iterate 3 refine gn ?_
             refine pf ?_;refine mq ?_;iterate 3 refine gn ?_
             refine pf ?_;refine aq (nl ?_);exact jz ((),false) h []
           .replace h:=cK (Lq hb) h;iterate 6 refine gn ?_
            refine pf ?_;refine mq ?_;iterate 3 refine gn ?_
            refine pf ?_;refine mq ?_;iterate 3 refine gn ?_
            refine pf ?_;refine aq (nl ?_);exact jz ((),false) h []
          .replace h:=cK (vb hb) h;iterate 8 refine gn ?_
           refine pf ?_;refine mq ?_;iterate 6 refine gn ?_
           refine pf ?_;refine mq ?_;iterate 3 refine gn ?_
           refine pf ?_;refine mq ?_;iterate 3 refine gn ?_
           refine pf ?_;refine aq (nl ?_);exact jz ((),false) h []
         .replace h:=cK (vb hb) h;iterate 2 refine gn ?_
          refine pf ?_;refine mq ?_;iterate 8 refine gn ?_
          refine pf ?_;refine mq ?_;iterate 6 refine gn ?_
          refine pf ?_;refine mq ?_;iterate 3 refine gn ?_
          refine pf ?_;refine mq ?_;iterate 3 refine gn ?_
          refine pf ?_;refine aq (nl ?_);exact jz ((),false) h []
        .replace h:=cK (vb hb) h;iterate 2 refine gn ?_
         refine pf ?_;refine mq ?_;iterate 2 refine gn ?_
         refine pf ?_;refine mq ?_;iterate 8 refine gn ?_
         refine pf ?_;refine mq ?_;iterate 6 refine gn ?_
         refine pf ?_;refine mq ?_;iterate 3 refine gn ?_
         refine pf ?_;refine mq ?_;iterate 3 refine gn ?_
         refine pf ?_;refine aq (nl ?_);exact jz ((),false) h []
       .replace h:=cK (vb hb) h;iterate 3 refine gn ?_
        refine pf ?_;refine mq ?_;iterate 2 refine gn ?_
        refine pf ?_;refine mq ?_;iterate 2 refine gn ?_
        refine pf ?_;refine mq ?_;iterate 8 refine gn ?_
        refine pf ?_;refine mq ?_;iterate 6 refine gn ?_
        refine pf ?_;refine mq ?_;iterate 3 refine gn ?_
        refine pf ?_;refine mq ?_;iterate 3 refine gn ?_
        refine pf ?_;refine aq (nl ?_);exact jz ((),false) h []
      .replace h:=cK (vb hb) h;iterate 2 refine gn ?_
       refine pf ?_;refine mq ?_;iterate 3 refine gn ?_
       refine pf ?_;refine mq ?_;iterate 2 refine gn ?_
       refine pf ?_;refine mq ?_;iterate 2 refine gn ?_
       refine pf ?_;refine mq ?_;iterate 8 refine gn ?_
       refine pf ?_;refine mq ?_;iterate 6 refine gn ?_
       refine pf ?_;refine mq ?_;iterate 3 refine gn ?_
       refine pf ?_;refine mq ?_;iterate 3 refine gn ?_
       refine pf ?_;refine aq (nl ?_);exact jz ((),false) h []
     .replace h:=cK (vb hb) h;iterate 2 refine gn ?_
      refine pf ?_;refine mq ?_;iterate 2 refine gn ?_
      refine pf ?_;refine mq ?_;iterate 3 refine gn ?_
      refine pf ?_;refine mq ?_;iterate 2 refine gn ?_
      refine pf ?_;refine mq ?_;iterate 2 refine gn ?_
      refine pf ?_;refine mq ?_;iterate 8 refine gn ?_
      refine pf ?_;refine mq ?_;iterate 6 refine gn ?_
      refine pf ?_;refine mq ?_;iterate 3 refine gn ?_
      refine pf ?_;refine mq ?_;iterate 3 refine gn ?_
      refine pf ?_;refine aq (nl ?_);exact jz ((),false) h []
    .replace h:=cK (vb hb) h;iterate 2 refine gn ?_
     refine pf ?_;refine mq ?_;iterate 2 refine gn ?_
     refine pf ?_;refine mq ?_;iterate 2 refine gn ?_
     refine pf ?_;refine mq ?_;iterate 3 refine gn ?_
     refine pf ?_;refine mq ?_;iterate 2 refine gn ?_
     refine pf ?_;refine mq ?_;iterate 2 refine gn ?_
     refine pf ?_;refine mq ?_;iterate 8 refine gn ?_
     refine pf ?_;refine mq ?_;iterate 6 refine gn ?_
     refine pf ?_;refine mq ?_;iterate 3 refine gn ?_
     refine pf ?_;refine mq ?_;iterate 3 refine gn ?_
     refine pf ?_;refine aq (nl ?_);exact jz ((),false) h []
   .replace h:=cK (vb hb) h;iterate 2 refine gn ?_
    refine pf ?_;refine mq ?_;iterate 2 refine gn ?_
    refine pf ?_;refine mq ?_;iterate 2 refine gn ?_
    refine pf ?_;refine mq ?_;iterate 2 refine gn ?_
    refine pf ?_;refine mq ?_;iterate 3 refine gn ?_
    refine pf ?_;refine mq ?_;iterate 2 refine gn ?_
    refine pf ?_;refine mq ?_;iterate 2 refine gn ?_
    refine pf ?_;refine mq ?_;iterate 8 refine gn ?_
    refine pf ?_;refine mq ?_;iterate 6 refine gn ?_
    refine pf ?_;refine mq ?_;iterate 3 refine gn ?_
    refine pf ?_;refine mq ?_;iterate 3 refine gn ?_
    refine pf ?_;refine aq (nl ?_);exact jz ((),false) h []
  .replace h:=cK (vb hb) h;iterate 2 refine gn ?_
   refine pf ?_;refine mq ?_;iterate 2 refine gn ?_
   refine pf ?_;refine mq ?_;iterate 2 refine gn ?_
   refine pf ?_;refine mq ?_;iterate 2 refine gn ?_
   refine pf ?_;refine mq ?_;iterate 2 refine gn ?_
   refine pf ?_;refine mq ?_;iterate 3 refine gn ?_
   refine pf ?_;refine mq ?_;iterate 2 refine gn ?_
   refine pf ?_;refine mq ?_;iterate 2 refine gn ?_
   refine pf ?_;refine mq ?_;iterate 8 refine gn ?_
   refine pf ?_;refine mq ?_;iterate 6 refine gn ?_
   refine pf ?_;refine mq ?_;iterate 3 refine gn ?_
   refine pf ?_;refine mq ?_;iterate 3 refine gn ?_
   refine pf ?_;refine aq (nl ?_);exact jz ((),false) h []
 .
  refine aD ?_;cases h;exact ra
def fi(k:Nat)(r2:ab×bV):Nat->((List Int)×Int×Int×(List aQ)×Int)->Option ((List aQ)×(List Int)×Int×Int)
 |0,_=>none
 |n+1,y7=>
  if 0 < y7.2.2.2.2 then((jj k (y7.1,y7.2.1,y7.2.2.1) (r2.1.1,r2.1.2.1,r2.1.2.2.1,r2.1.2.2.2.1,r2.1.2.2.2.2.1,())).bind λr9=>
  (bU (aR (length y7.2.2.2.1+length [r9.1]))).bind λ_=>
  (ck (y7.2.2.2.2 - 1)).bind λc=>
  fi k r2 n (r9.2.1,r9.2.2.1,r9.2.2.2,y7.2.2.2.1++[r9.1],c)) else(some (y7.2.2.2.1,y7.1,y7.2.1,y7.2.2.1))
def ji(k:Nat)(a0:bV)(a1:Int)(a2:Int):Option (ab×bV):=
 (kX k (a0.1,a0.2.1,a0.2.2) a1 a2).bind λr2=>
 (((cy k (r2.2.1,r2.2.2.1,r2.2.2.2) 4).bind λr6=>
 fi k r2 k (r6.2.1,r6.2.2.1,r6.2.2.2,([]:(List aQ)),r6.1)):Option ((List aQ)×(List Int)×Int×Int)).bind λx4=>
 some ((r2.1.1,r2.1.2.1,r2.1.2.2.1,r2.1.2.2.2.1,r2.1.2.2.2.2.1,x4.1),(x4.2.1,x4.2.2.1,x4.2.2.2))
theorem ue(k:Nat)(a0:bV)(c:Nat)(a1:Int)(a2:Int)(r:ab×bV)(h:ji k a0 a1 a2=some r):
 c6 Tryz.prog 21 [Pt c,I a1,I a2] [.obj c 60 (.agg (.pair (.rep Tl a0.1) (.pair (I a0.2.1) (.eq (.int .u64 a0.2.2)))))] (λ_:Unit=>(bA [.rep ak r.1],[.obj c 60 (.agg (.pair (.rep Tl r.2.1) (.pair (I r.2.2.1) (.eq (.int .u64 r.2.2.2)))))])):=by
 unfold ji at h
 replace h:=bb h
 refine c6.of 28 Tryz.func21 rfl Tryz.ntmps21 rfl λS w0=>?_
 refine sr ?_
 refine aW rfl rfl rfl (bq rfl sK vd) trivial λb1=>?_
 refine nt ?_
 refine sr ?_
 iterate 3 refine mq ?_
 obtain⟨r2,D,h⟩:=aa h
 have E:=wC k (a0.1,a0.2.1,a0.2.2) c a1 a2 r2 D
 refine fr 1 ?_
 refine kc (av [.tmp 9,.tmp 10,.tmp 11] rfl rfl Wn rfl E) ?_
 refine aW rfl rfl rfl (bq rfl sK vd) trivial λb3=>?_
 refine aO rfl rfl (aK rfl dq trivial rfl rfl) ⟨rfl,rfl,trivial⟩ ?_
 refine nt ?_
 refine aE (Z:=Value) (α:=(List aQ)×(List Int)×Int×Int) (λz5 x4=>[(6,Pt b1),(7,Pt b3)]) (λz5 x4=>[.obj b1 28 (.agg (.pair (I 0) (.pair (I 0) (.pair (I 0) (.pair (I 0) (.pair (.eq (.slice none 0 0)) (.eq (.slice none 0 0)))))))),.obj b3 28 (.agg (.pair (I r2.1.1) (.pair (I r2.1.2.1) (.pair (I r2.1.2.2.1) (.pair (I r2.1.2.2.2.1) (.pair (.rep (.slice (.slice Tl)) r2.1.2.2.2.2.1) (.eq z5))))))),.sl z5 46 aI x4.1,.obj c 60 (.agg (.pair (.rep Tl x4.2.1) (.pair (I x4.2.2.1) (.eq (.int .u64 x4.2.2.2)))))]) h (λK h=>?_) (λz5 x4 h=>?_)
 .
  refine sr (mq ?_);obtain⟨r6,y,h⟩:=aa h;refine fr 1 ?_;refine kb (av [.tmp 13,.const (.int .i64 (4))] rfl rfl J7 rfl (cI k (r2.2.1,r2.2.2.1,r2.2.2.2) c 4 r6 y)) ?_;refine aq (nt (ah ?_));refine fS (SE.nil 46 aI) ?_;refine aC (λz8 y7=>[(0,Pt c),(6,Pt b1),(7,Pt b3),(8,I y7.2.2.2.2)]) (λz8 y7=>[.obj c 60 (.agg (.pair (.rep Tl y7.1) (.pair (I y7.2.1) (.eq (.int .u64 y7.2.2.1))))),.obj b1 28 (.agg (.pair (I 0) (.pair (I 0) (.pair (I 0) (.pair (I 0) (.pair (.eq (.slice none 0 0)) (.eq (.slice none 0 0)))))))),.obj b3 28 (.agg (.pair (I r2.1.1) (.pair (I r2.1.2.1) (.pair (I r2.1.2.2.1) (.pair (I r2.1.2.2.2.1) (.pair (.rep (.slice (.slice Tl)) r2.1.2.2.2.2.1) (.eq z8))))))),.sl z8 46 aI y7.2.2.2.1]) (fi k r2) k (.slice none 0 0) (r6.2.1,r6.2.2.1,r6.2.2.2,([]:(List aQ)),r6.1) (λ_=>rfl) h (SE.fin [1,3,2,0] ⟨rfl,rfl,rfl,rfl,trivial⟩ rfl) (λn z8 y7 h=>?_);unfold fi at h;refine ai (sr (mq ?_));refine jb (jE rfl) ?_;refine nt (ci h (λh=>?_) (λh=>?_))
  .refine sk (ai (ah (bB ?_)));refine da (au rfl gf) ?_;refine ea 2 (ao rfl nP jI rfl) ?_;refine dm ?_;refine ea 2 (ao rfl dq (pu) rfl) ?_;obtain⟨r9,u,h⟩:=aa h;refine Gq 0 rfl rfl rfl rfl (bW (N:=[(.tmp 21,Pt c),(.tmp 22,.agg (.pair (I r2.1.1) (.pair (I r2.1.2.1) (.pair (I r2.1.2.2.1) (.pair (I r2.1.2.2.2.1) (.pair (.rep (.slice (.slice Tl)) r2.1.2.2.2.2.1) (.eq z8)))))))]) (av [.tmp 21,.tmp 22] rfl rfl Wj rfl (uf k (y7.1,y7.2.1,y7.2.2.1) c (r2.1.1,r2.1.2.1,r2.1.2.2.1,r2.1.2.2.2.1,r2.1.2.2.2.2.1,()) r9 u)) λ_ _ _ hn=>⟨hn.1,(Ot (t:=(.pair Ti (.pair Ti (.pair Ti (.pair Ti (.pair (.slice (.slice Tl)) .ign)))))) (x:=(r2.1.1,r2.1.2.1,r2.1.2.2.1,r2.1.2.2.2.1,r2.1.2.2.2.2.1,())) (qA (kg .int) (qA (kg .int) (qA (kg .int) (qA (kg .int) (qA (kg .rep) OW))))) hn.2.1),trivial⟩) ⟨rfl,rfl,trivial⟩ ?_;refine da (aP (t:=aI) [(.tmp 23,_)] [r9.1] rfl rfl AY (.cons rfl .rep .nil) rfl rfl) ?_;refine Gs (Δ':=[.obj b1 28 (.agg (.pair (I 0) (.pair (I 0) (.pair (I 0) (.pair (I 0) (.pair (.eq (.slice none 0 0)) (.eq (.slice none 0 0)))))))),.obj b3 28 (.agg (.pair (I r2.1.1) (.pair (I r2.1.2.1) (.pair (I r2.1.2.2.1) (.pair (I r2.1.2.2.2.1) (.pair (.rep (.slice (.slice Tl)) r2.1.2.2.2.2.1) (.eq z8))))))),.sl z8 46 aI y7.2.2.2.1,.obj c 60 (.agg (.pair (.rep Tl r9.2.1) (.pair (I r9.2.2.1) (.eq (.int .u64 r9.2.2.2)))))]) (by kernel_rfl) cY (by kernel_rfl) ?_;obtain⟨F,j,h⟩:=aa h;refine fr 2 ?_;refine cC rfl rfl rfl (bf rfl rfl AY (ap j)) ⟨rfl,rfl,trivial⟩ λs=>?_;refine fl gf ?_;refine nJ λo12=>?_;refine fr 2 ?_;refine aO rfl rfl (aK rfl nP o12 rfl rfl) ⟨rfl,rfl,trivial⟩ ?_;refine aH (aJ (tn (ae (mq ?_))));obtain⟨l,e,h⟩:=aa h;refine jb (eJ rfl e) ?_;refine aq (nl ?_);exact jz (s,(r9.2.1,r9.2.2.1,r9.2.2.2,y7.2.2.2.1++[r9.1],l)) h [3,2,0,1]
  .refine xa ?_;exact jz (z8,(y7.2.2.2.1,y7.1,y7.2.1,y7.2.2.1)) h [1,2,3,0]
 .
  refine sr (fr 1 ?_);refine fr 2 ?_;refine d4 (iN (off:=5) [] trivial rfl rfl) ?_;refine lo dq ?_;refine fr 1 ?_;refine aO rfl rfl (aK rfl dq trivial rfl rfl) ⟨rfl,rfl,trivial⟩ ?_;refine nt (aD (bD (gZ (a:=.agg (.pair (I r2.1.1) (.pair (I r2.1.2.1) (.pair (I r2.1.2.2.1) (.pair (I r2.1.2.2.2.1) (.pair (.rep (.slice (.slice Tl)) r2.1.2.2.2.2.1) (Rs aI x4.1))))))) (a':=.rep ak (r2.1.1,r2.1.2.1,r2.1.2.2.1,r2.1.2.2.2.1,r2.1.2.2.2.2.1,x4.1)) (kg (.agg (.pair .int (.pair .int (.pair .int (.pair .int (.pair .rep .rep)))))))) ?_));refine bD (SE.fin (Γ':=[(6,_)]) [2,0,1] ⟨rfl,trivial⟩ rfl) ?_;cases h;exact aS () [.rep ak (r2.1.1,r2.1.2.1,r2.1.2.2.1,r2.1.2.2.2.1,r2.1.2.2.2.2.1,x4.1)] 1 ⟨⟨_,_,_,_,_,rfl,(.tail _ (.head _)),dq,(pu),rfl⟩,trivial⟩ rfl
def jK(k:Nat)(a0:ab)(a1:aQ)(a2:bV):Option ((List ab)×bV):=
 (ji k (a2.1,a2.2.1,a2.2.2) 4 4).bind λr3=>
 (ik k r3.1).bind λr5=>
 (bU (aR (length r5.2.2.2.2.2+length [a1]))).bind λ_=>
 some ([a0,r3.1,(r5.1,r5.2.1,r5.2.2.1,r5.2.2.2.1,r5.2.2.2.2.1,r5.2.2.2.2.2++[a1])],(r3.2.1,r3.2.2.1,r3.2.2.2))
theorem wz(k:Nat)(a0:ab)(a1:aQ)(a2:bV)(c:Nat)(r:(List ab)×bV)(h:jK k a0 a1 a2=some r):
 c6 Tryz.prog 17 [.rep ak a0,.rep aI a1,Pt c] [.obj c 60 (.agg (.pair (.rep Tl a2.1) (.pair (I a2.2.1) (.eq (.int .u64 a2.2.2)))))] (λ_:Unit=>(bA [Rs ak r.1],[.obj c 60 (.agg (.pair (.rep Tl r.2.1) (.pair (I r.2.2.1) (.eq (.int .u64 r.2.2.2)))))])):=by
 unfold jK at h
 replace h:=bb h
 refine c6.of 23 Tryz.func17 rfl Tryz.ntmps17 rfl λS w0=>?_
 refine sr ?_
 refine bx λb1=>?_
 refine bx λb2=>?_
 refine cq ?_
 refine nt ?_
 refine sr ?_
 refine mq ?_
 obtain⟨r3,l,h⟩:=aa h
 have s:=ue k (a2.1,a2.2.1,a2.2.2) c 4 4 r3 l
 refine fr 2 ?_
 refine kc (av [.tmp 9,.const (.int .i64 (4)),.const (.int .i64 (4))] rfl rfl Wp rfl s) ?_
 refine aW rfl rfl rfl (bq rfl sK vd) trivial λb4=>?_
 refine aO rfl rfl (aK rfl dq rfl rfl rfl) ⟨rfl,rfl,trivial⟩ ?_
 refine nt ?_
 refine sr ?_
 refine lo dq ?_
 obtain⟨r5,j,h⟩:=aa h
 have n:=oh k r3.1 r5 j
 refine aW rfl rfl rfl (av [.tmp 11] rfl rfl Ue rfl n) ⟨rfl,trivial⟩ λv6=>?_
 refine aW rfl rfl rfl (bq rfl sK vd) trivial λb7=>?_
 refine aO rfl rfl (aK rfl dq trivial rfl rfl) ⟨rfl,rfl,trivial⟩ ?_
 refine nt ?_
 refine sr ?_
 refine fl gf ?_
 refine lo nP ?_
 refine fr 4 ?_
 refine lo nB ?_
 refine ja (aP (t:=aI) [(.tmp 15,_)] [a1] rfl rfl AY (.cons rfl .rep .nil) rfl rfl) ?_
 obtain⟨u8,e,h⟩:=aa h
 refine fr 2 ?_
 refine cC rfl rfl rfl (bf rfl rfl AY (ap e)) ⟨rfl,rfl,trivial⟩ λv9=>?_
 refine fl gf ?_
 refine nJ λo10=>?_
 refine fr 2 ?_
 refine aO rfl rfl (aK rfl nP o10 rfl rfl) ⟨rfl,rfl,trivial⟩ ?_
 refine nt ?_
 refine sr ?_
 refine fr 5 ?_
 refine lo dq ?_
 refine fr 4 ?_
 refine lo dq ?_
 refine fr 2 ?_
 refine fr 3 ?_
 refine d4 (iN (off:=5) [17] ⟨rfl,trivial⟩ rfl rfl) ?_
 refine lo dq ?_
 refine jc (aP (t:=ak) [(.tmp 19,_),(.tmp 20,_),(.tmp 21,_)] [a0,r3.1,(r5.1,r5.2.1,r5.2.2.1,r5.2.2.2.1,r5.2.2.2.2.1,r5.2.2.2.2.2++[a1])] rfl rfl Vg (.cons rfl .rep (.cons rfl .rep (.cons trivial (.agg (.pair .int (.pair .int (.pair .int (.pair .int (.pair .rep .rep)))))) .nil))) rfl rfl) ?_
 refine aq ?_
 refine nt ?_
 refine aD ?_
 refine bD (SE.fin (Γ':=[(6,_)]) [4,0,1,2,3] ⟨rfl,trivial⟩ rfl) ?_
 cases h
 exact aS () [_] 1 ⟨rfl,trivial⟩ rfl
def dB(k:Nat)(a2:Int)(r7:(List ab)×bV)(r8:Int×bV):Nat->Int->Option (Except Bool Unit)
 |0,_=>none
 |n+1,e=>
  if e < (r7.1.length:Int) then((aG r7.1 e).bind λD=>
  (ik k D).bind λc=>
  (aG [a2,r8.1,a2] e).bind λy=>
  (kz k (c.1,c.2.1,c.2.2.1,c.2.2.2.1,c.2.2.2.2.1,c.2.2.2.2.2) y).bind λj=>
  (aG r7.1 e).bind λx=>
  (aG [a2,r8.1,a2] e).bind λu=>
  (mr k x u).bind λh=>
  ((if¬(j.2=h.2) then(some true) else((fQ k j.1 h.1).bind λF=>
  if¬(F=true) then(some true) else((aG r7.1 e).bind λr=>
  (jg k (c.1,c.2.1,c.2.2.1,c.2.2.2.1,c.2.2.2.2.1,c.2.2.2.2.2) r).bind λE=>
  some (!E)))):Option (Bool)).bind λs=>
  if s=true then(some (.error false)) else((ck (e+1)).bind λl=>
  dB k a2 r7 r8 n l)) else(some (.ok ()))
def jv(k:Nat)(a0:ab)(a1:aQ)(a2:Int)(a3:(List Int)):Option Bool:=
 (qe k a0).bind λr3=>
 if r3=true then((qf k).bind λr4=>
 some r4) else((nk k a3).bind λr5=>
 (jK k a0 a1 (r5.1,r5.2.1,r5.2.2)).bind λr7=>
 (cy k (r7.2.1,r7.2.2.1,r7.2.2.2) 2).bind λr8=>
 bE (α:=Unit) (dB k a2 r7 r8 k 0) (some) λ_=>
 (qf k).bind λc=>
 some c)
theorem sd(k:Nat)(a0:ab)(a1:aQ)(a2:Int)(a3:(List Int))(r:Bool)(h:jv k a0 a1 a2 a3=some r):
 cD (eP Tryz.prog) 4 [.rep ak a0,.rep aI a1,I a2,.rep Tl a3] [] (λ_:Unit=>(bA [.eq (.bool r)],[])):=by
 unfold jv at h
 replace h:=bb h
 refine cD.of 83 Tryz.func4 rfl Tryz.ntmps4 rfl λS w0=>?_
 refine sr ?_
 refine bx λb1=>?_
 refine bx λb2=>?_
 refine cq ?_
 refine nt ?_
 refine ai ?_
 refine sr ?_
 refine fr 1 ?_
 refine lo dq ?_
 obtain⟨r3,Xq,h⟩:=aa h
 have Xr:=BK k a0 r3 Xq
 refine ja (av [.tmp 18] rfl rfl Wu rfl Xr) ?_
 refine nt ?_
 refine cv h (λh=>?_) (λh=>?_)
 .
  refine sr ?_;obtain⟨r4,Xp,h⟩:=aa h;refine cG rfl (bv [] rfl rfl Uh rfl (uM k r4 Xp)) trivial ?_;refine aq (nt (rx ?_));cases h;exact ra
 .
  refine sk (sr (mq ?_));obtain⟨r5,Xo,h⟩:=aa h;refine aW rfl rfl rfl (av [.tmp 21] rfl rfl W7 rfl (wB k a3 r5 Xo)) ⟨rfl,trivial⟩ λb6=>?_;refine aq (nt (sr ?_));refine fr 1 ?_;refine lo dq ?_;refine fr 2 ?_;refine lo nB ?_;refine mq ?_;obtain⟨r7,Xn,h⟩:=aa h;refine fr 2 ?_;refine kc (av [.tmp 23,.tmp 24,.tmp 25] rfl rfl Wt rfl (wz k a0 a1 (r5.1,r5.2.1,r5.2.2) b6 r7 Xn)) ?_;refine aq (nt (sr ?_));iterate 2 refine mq ?_
  obtain⟨r8,Xm,h⟩:=aa h;refine kb (av [.tmp 28,.const (.int .i64 (2))] rfl rfl J7 rfl (cI k (r7.2.1,r7.2.2.1,r7.2.2.2) b6 2 r8 Xm)) ?_;refine mq ?_;refine jc (aP (t:=Ti) [(.tmp 27,_),(.tmp 29,_),(.tmp 30,_)] [a2,r8.1,a2] rfl rfl cZ (.cons rfl .int (.cons rfl .int (.cons rfl .int .nil))) rfl rfl) ?_;refine aq (nt ?_);refine cu (Z:=Unit) (α:=Unit) (λy x9=>[]) (λy x9=>[]) (λe=>e=r) h (λe h=>Option.some.inj h) (λK hR h=>?_) (λy x9 h=>?_)
  .refine sr (cq (nt (ah ?_)));refine aC (λu j=>[(10,Rs ak r7.1),(11,.rep Tl [a2,r8.1,a2]),(12,I j)]) (λu j=>[]) (dB k a2 r7 r8) k () 0 (λ_=>rfl) h (SE.fin [] ⟨rfl,rfl,rfl,trivial⟩ rfl) (λn u j h=>?_);unfold dB at h;refine ai (sr ?_);iterate 2 refine mq ?_
   refine ol UY ?_;refine jb (bh rfl) ?_;refine nt (ci h (λh=>?_) (λh=>?_))
   .refine sk (ai (ah (sr ?_)));iterate 2 refine mq ?_
    obtain⟨Xj,gw,h⟩:=aa h;refine jb (aA (t:=ak) rfl UY dq gw) ?_;refine ja (am (t:=ak) rfl dq rfl) ?_;obtain⟨c,Xf,h⟩:=aa h;refine aW rfl rfl rfl (av [.tmp 41] rfl rfl Ue rfl (oh k Xj c Xf)) ⟨rfl,trivial⟩ λXs=>?_;refine aW rfl rfl rfl (bq rfl sK vd) trivial λXt=>?_;refine aO rfl rfl (aK rfl dq trivial rfl rfl) ⟨rfl,rfl,trivial⟩ ?_;refine nt (ai (dN 1 rfl ?_));refine fS (iN (off:=5) [] trivial rfl rfl) ?_;refine bB ?_;refine ea 0 (ao rfl dq (pu) rfl) ?_;refine dm ?_;refine dm ?_;obtain⟨E,Y,h⟩:=aa h;refine db (aA (t:=Ti) rfl gi bR Y) ?_;refine da (am (t:=Ti) rfl bR rfl) ?_;obtain⟨M,Xe,h⟩:=aa h;refine db (bW (N:=[(.tmp 44,.agg (.pair (I c.1) (.pair (I c.2.1) (.pair (I c.2.2.1) (.pair (I c.2.2.2.1) (.pair (.rep (.slice (.slice Tl)) c.2.2.2.2.1) (Rs aI c.2.2.2.2.2))))))),(.tmp 48,I E)]) (bv [.tmp 44,.tmp 48] rfl rfl Us rfl (ry k (c.1,c.2.1,c.2.2.1,c.2.2.2.1,c.2.2.2.2.1,c.2.2.2.2.2) E M Xe)) λ_ _ _ hn=>⟨(aN (t:=ak) (x:=(c.1,c.2.1,c.2.2.1,c.2.2.2.1,c.2.2.2.2.1,c.2.2.2.2.2)) (.agg (.pair .int (.pair .int (.pair .int (.pair .int (.pair .rep .rep)))))) trivial rfl hn.1),hn.2.1,trivial⟩) ?_;refine dm ?_;refine da (f6 rfl rfl) ?_;refine da (f6 rfl rfl) ?_;refine da (kS rfl) ?_;refine df cY ?_;refine aq (nt (ai ?_));refine bB ?_;refine dm ?_;refine dm ?_;obtain⟨Xi,X,h⟩:=aa h;refine db (aA (t:=ak) rfl UY dq X) ?_;refine da (am (t:=ak) rfl dq rfl) ?_;refine dm ?_;refine dm ?_;obtain⟨Xh,U,h⟩:=aa h;refine db (aA (t:=Ti) rfl gi bR U) ?_;refine da (am (t:=Ti) rfl bR rfl) ?_;obtain⟨J,zz,h⟩:=aa h;refine db (av [.tmp 56,.tmp 60] rfl rfl Ws rfl (xy k Xi Xh J zz)) ?_;refine dm ?_;refine da (f6 rfl rfl) ?_;refine da (f6 rfl rfl) ?_;refine da (kS rfl) ?_;refine df cY ?_;refine aq (nt ?_);refine aE (Z:=Unit) (α:=Bool) (λs l=>[(10,Rs ak r7.1),(11,.rep Tl [a2,r8.1,a2]),(12,I j),(81,.eq (.bool l))]) (λs l=>[]) h (λK h=>?_) (λs l h=>?_)
    .refine bB ?_;refine dm ?_;refine dm ?_;refine db (eT rfl) ?_;refine nA rfl rfl rfl (ba rfl) ⟨rfl,trivial⟩ (λhb=>?_) (λhb=>?_)
     .replace h:=eh (QF hb) h;iterate 4 refine dg ?_
      refine db (we rfl) ?_;refine dm ?_;iterate 5 refine dg ?_
      refine df cY ?_;iterate 2 refine gn ?_
      refine pt (nl ?_);exact jz ((),true) h []
     .replace h:=cK (Ed hb) h;refine bu rfl rfl rfl rfl rfl (ba rfl) ⟨rfl,rfl,trivial⟩ ?_;refine bu rfl rfl rfl rfl rfl (ba rfl) ⟨rfl,rfl,trivial⟩ ?_;obtain⟨Xl,qt,h⟩:=aa h;refine bu rfl rfl rfl rfl rfl (av [.tmp 68,.tmp 69] rfl rfl NV rfl (jw k M.1 J.1 Xl qt)) ⟨rfl,rfl,rfl,trivial⟩ ?_;refine bu rfl rfl rfl rfl rfl (fo rfl) ⟨rfl,rfl,trivial⟩ ?_;refine db (wh rfl) ?_;refine nA rfl rfl rfl (ba rfl) ⟨rfl,trivial⟩ (λhb=>?_) (λhb=>?_)
      .replace h:=eh (tU hb) h;iterate 5 refine dg ?_
       refine df cY ?_;iterate 2 refine gn ?_
       refine pt (nl ?_);exact jz ((),true) h []
      .replace h:=cK (od hb) h;refine g9 0 rfl rfl rfl rfl rfl rfl (ao rfl dq (pu) rfl) ⟨rfl,rfl,trivial⟩ ?_;refine bu rfl rfl rfl rfl rfl (ba rfl) ⟨rfl,rfl,trivial⟩ ?_;refine bu rfl rfl rfl rfl rfl (ba rfl) ⟨rfl,rfl,trivial⟩ ?_;obtain⟨D,Q,h⟩:=aa h;refine bu rfl rfl rfl rfl rfl (aA (t:=ak) rfl UY dq Q) ⟨rfl,rfl,rfl,trivial⟩ ?_;refine bu rfl rfl rfl rfl rfl (am (t:=ak) rfl dq rfl) ⟨rfl,rfl,trivial⟩ ?_;refine df cY ?_;obtain⟨F,mw,h⟩:=aa h;refine gb (bW (N:=[(.tmp 74,.agg (.pair (I c.1) (.pair (I c.2.1) (.pair (I c.2.2.1) (.pair (I c.2.2.2.1) (.pair (.rep (.slice (.slice Tl)) c.2.2.2.2.1) (Rs aI c.2.2.2.2.2))))))),(.tmp 78,.rep ak D)]) (av [.tmp 74,.tmp 78] rfl rfl Wq rfl (uc k (c.1,c.2.1,c.2.2.1,c.2.2.2.1,c.2.2.2.2.1,c.2.2.2.2.2) D F mw)) λ_ _ _ hn=>⟨(aN (t:=ak) (x:=(c.1,c.2.1,c.2.2.1,c.2.2.2.1,c.2.2.2.2.1,c.2.2.2.2.2)) (.agg (.pair .int (.pair .int (.pair .int (.pair .int (.pair .rep .rep)))))) trivial rfl hn.1),hn.2.1,trivial⟩) ?_;refine ga (fo rfl) ?_;refine pf (nl ?_);exact jz ((), !F) h []
    .refine cv h (λh=>?_) (λh=>?_)
     .refine sr (cq (nt (aD (br (aX (be ?_))))));obtain rfl:=hR _ h;exact ra
     .refine bg (aJ (tn (ae (mq ?_))));obtain⟨Xg,O,h⟩:=aa h;refine jb (aU rfl O) ?_;refine aq (nl ?_);exact jz ((),Xg) h []
   .refine xa ?_;exact jz ((),()) h []
  .refine sr ?_;obtain⟨Xk,mc,h⟩:=aa h;refine cG rfl (bv [] rfl rfl Uh rfl (uM k Xk mc)) trivial ?_;refine aq (nt (aD ?_));cases h;exact ra
