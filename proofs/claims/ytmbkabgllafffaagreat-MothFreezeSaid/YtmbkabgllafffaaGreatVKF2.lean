import Derived.Test.YtmbkabgllafffaaGreatVKB10
open Nat
open List hiding mem_of_getElem?
open Array hiding mem_of_getElem? mk
set_option linter.unusedSimpArgs false
set_option linter.unusedVariables false
set_option maxRecDepth 4000
set_option maxHeartbeats 1000000
namespace Go.Proofs.YtmbkabgllafffaaGreat
open K Go Go.Proofs
def fO(k:Nat)(r4:(List Int)×bJ):Nat->((List Int)×Int×Int×Int×(List (List Int)))->Option ((List Int)×Int×Int×(List (List Int)))
 |0,_=>none
 |n+1,y7=>
  if y7.2.2.2.1 < (r4.1.length:Int) then((((eM k (y7.1,y7.2.1,y7.2.2.1) 5).bind λc=>
  if c.1=true then(some (c.2.1,c.2.2.1,c.2.2.2,y7.2.2.2.2)) else((ck ((y7.2.2.2.2.length:Int) - 1)).bind λr=>
  (bZ k (c.2.1,c.2.2.1,c.2.2.2) r).bind λe=>
  (aF y7.2.2.2.2 e.1).bind λj=>
  (aF r4.1 y7.2.2.2.1).bind λh=>
  (cL (bD (length j+length [h]))).bind λ_=>
  some (e.2.1,e.2.2.1,e.2.2.2,List.set y7.2.2.2.2 (Int.toNat e.1) (j++[h])))):Option ((List Int)×Int×Int×(List (List Int)))).bind λx9=>
  (ck (y7.2.2.2.1+1)).bind λl=>
  fO k r4 n (x9.1,x9.2.1,x9.2.2.1,l,x9.2.2.2)) else(some (y7.1,y7.2.1,y7.2.2.1,y7.2.2.2.2))
def j9(k:Nat)(a0:bJ)(a1:Int):Option ((List (List Int))×bJ):=
 (fZ k (a0.1,a0.2.1,a0.2.2) 1 3).bind λr1=>
 (cL (0≤r1.1/\bD (Int.toNat r1.1))).bind λ_=>
 (ib k (r1.2.1,r1.2.2.1,r1.2.2.2) a1).bind λr4=>
 ((fO k r4 k (r4.2.1,r4.2.2.1,r4.2.2.2,0,List.replicate (Int.toNat r1.1) ([]:(List Int)))):Option ((List Int)×Int×Int×(List (List Int)))).bind λx5=>
 some (x5.2.2.2,(x5.1,x5.2.1,x5.2.2.1))
theorem vg(k:Nat)(a0:bJ)(c:Nat)(a1:Int)(r:(List (List Int))×bJ)(h:j9 k a0 a1=some r):
 dz Tryz.prog 60 [Pt c,I a1] [.obj c 60 (.agg (.pair (.rep Tl a0.1) (.pair (I a0.2.1) (.eq (.int .u64 a0.2.2)))))] (λ_:Unit=>(bN [.rep (.slice Tl) r.1],[.obj c 60 (.agg (.pair (.rep Tl r.2.1) (.pair (I r.2.2.1) (.eq (.int .u64 r.2.2.2)))))])):=by
 unfold j9 at h
 replace h:=bg h
 refine dz.of 42 Tryz.func60 rfl Tryz.ntmps60 rfl λS w0=>?_
 refine sr ?_
 refine cq ?_
 refine nt ?_
 refine sr ?_
 refine mq ?_
 obtain⟨r1,VB,h⟩:=aa h
 have VD:=ju k (a0.1,a0.2.1,a0.2.2) c 1 3 r1 VB
 refine kc (ax [.tmp 9,.const (.int .i64 (1)),.const (.int .i64 (3))] rfl rfl L8 rfl VD) ?_
 obtain⟨u2,U,h⟩:=aa h
 refine aX rfl rfl rfl (OY (t:=.val) (d:=.slice none 0 0) rfl l9 Qn (am U).1 (am U).2) ⟨rfl,rfl,trivial⟩ λv3=>?_
 refine eg (Ju (F:=[.obj c 60 (.agg (.pair (.rep Tl r1.2.1) (.pair (I r1.2.2.1) (.eq (.int .u64 r1.2.2.2)))))])) ?_
 refine aq ?_
 refine nt ?_
 refine sr ?_
 iterate 2 refine mq ?_
 obtain⟨r4,VA,h⟩:=aa h
 have VC:=sa k (r1.2.1,r1.2.2.1,r1.2.2.2) c a1 r4 VA
 refine kb (ax [.tmp 12,.tmp 13] rfl rfl Uc rfl VC) ?_
 refine aq ?_
 refine nt ?_
 refine aC (Z:=(Value×(Nat->Value))) (α:=(List Int)×Int×Int×(List (List Int))) (λz6 x5=>[(5,.eq z6.1)]) (λz6 x5=>[.obj c 60 (.agg (.pair (.rep Tl x5.1) (.pair (I x5.2.1) (.eq (.int .u64 x5.2.2.1)))))]++yb 22 z6 x5.2.2.2) h (λK h=>?_) (λz6 x5 h=>?_)
 .
  refine sr (cq (nt (ai ?_)));refine aD (Z:=(Value×(Nat->Value))) (α:=(List Int)×Int×Int×Int×(List (List Int))) (λz8 y7=>[(0,Pt c),(5,.eq z8.1),(6,.rep Tl r4.1),(7,I y7.2.2.2.1)]) (λz8 y7=>[.obj c 60 (.agg (.pair (.rep Tl y7.1) (.pair (I y7.2.1) (.eq (.int .u64 y7.2.2.1)))))]++yb 22 z8 y7.2.2.2.2) (fO k r4) k (v3,λ_=>.slice none 0 0) (r4.2.1,r4.2.2.1,r4.2.2.2,0,List.replicate (Int.toNat r1.1) ([]:(List Int))) (λ_=>rfl) h (li [.obj c 60 (.agg (.pair (.rep Tl r4.2.1) (.pair (I r4.2.2.1) (.eq (.int .u64 r4.2.2.2)))))] (yb 22 (v3,λ_=>.slice none 0 0) (List.replicate (Int.toNat r1.1) ([]:(List Int)))) [0] ⟨rfl,rfl,rfl,rfl,trivial⟩ rfl) (λn z8 y7 h=>?_);unfold fO at h;refine ak (sr ?_);iterate 2 refine mq ?_
  refine ol ig ?_;refine jb (bo rfl) ?_;refine nt (ci h (λh=>?_) (λh=>?_))
  .refine sk (aC (Z:=(Value×(Nat->Value))) (α:=(List Int)×Int×Int×(List (List Int))) (λy x9=>[(0,Pt c),(5,.eq y.1),(6,.rep Tl r4.1),(7,I y7.2.2.2.1)]) (λy x9=>[.obj c 60 (.agg (.pair (.rep Tl x9.1) (.pair (I x9.2.1) (.eq (.int .u64 x9.2.2.1)))))]++yb 22 y x9.2.2.2) h (λK h=>?_) (λy x9 h=>?_))
   .refine ai (ak (sr (mq ?_)));obtain⟨j,gw,h⟩:=aa h;refine kb (ax [.tmp 21,.const (.int .i64 (5))] rfl rfl L6 rfl (im k (y7.1,y7.2.1,y7.2.2.1) c 5 j gw)) ?_;refine nt (cv h (λh=>?_) (λh=>?_))
    .refine fK (bM (c6 (au ?_)));exact mZ (z8,(j.2.1,j.2.2.1,j.2.2.2,y7.2.2.2.2)) h (li [.obj c 60 (.agg (.pair (.rep Tl j.2.1) (.pair (I j.2.2.1) (.eq (.int .u64 j.2.2.2)))))] (yb 22 z8 y7.2.2.2.2) [0] ⟨rfl,rfl,rfl,rfl,trivial⟩ rfl)
    .refine sk (sr ?_);iterate 2 refine mq ?_
     refine JE (pre:=[.obj c 60 (.agg (.pair (.rep Tl j.2.1) (.pair (I j.2.2.1) (.eq (.int .u64 j.2.2.2)))))]) rfl rfl rfl rfl rfl mM ⟨rfl,trivial⟩ ?_;obtain⟨mw,Q,h⟩:=aa h;refine jb (dL rfl Q) ?_;obtain⟨e,Y,h⟩:=aa h;refine kb (ax [.tmp 23,.tmp 26] rfl rfl I1 rfl (cp k (j.2.1,j.2.2.1,j.2.2.2) c mw e Y)) ?_;refine aq (nt ?_);obtain⟨x,s,h⟩:=aa h;refine f5 (Gg (pre:=[.obj c 60 (.agg (.pair (.rep Tl e.2.1) (.pair (I e.2.2.1) (.eq (.int .u64 e.2.2.2)))))]) (gR s).2) ?_;obtain⟨u,O,h⟩:=aa h;obtain⟨u16,X,h⟩:=aa h;refine JI (Δ:=[.sl (z8.2 (Int.toNat e.1)) 3 Ti x,.sl z8.1 22 .val (gW z8.2 0 y7.2.2.2.2),.obj c 60 (.agg (.pair (.rep Tl e.2.1) (.pair (I e.2.2.1) (.eq (.int .u64 e.2.2.2)))))]) (F:=(fW z8.2 0 y7.2.2.2.2).eraseIdx (Int.toNat e.1)) (Z:=Value) (λi=>[(0,Pt c),(5,.eq z8.1),(6,.rep Tl r4.1),(7,I y7.2.2.2.1)]) (λi=>[.sl z8.1 22 .val (List.set (gW z8.2 0 y7.2.2.2.2) (Int.toNat e.1) i),.sl i 3 Ti (x++[u]),.obj c 60 (.agg (.pair (.rep Tl e.2.1) (.pair (I e.2.2.1) (.eq (.int .u64 e.2.2.2)))))]) (λS w=>?_) (λl=>?_)
     .refine nH ?_;refine ba rfl rfl rfl (aV rfl) ⟨rfl,trivial⟩ ?_;refine ba rfl rfl rfl (aV rfl) ⟨rfl,trivial⟩ ?_;refine ba rfl rfl rfl (aV rfl) ⟨rfl,trivial⟩ ?_;refine ba rfl rfl rfl (aV rfl) ⟨rfl,trivial⟩ ?_;refine ff 1 rfl rfl rfl rfl (bA (t:=.val) rfl mM dN (fJ s)) ⟨rfl,rfl,trivial⟩ ?_;refine ff 1 rfl rfl rfl rfl (ek (i:=Int.toNat e.1) (off:=0) rfl dN (λ_=>rfl) rfl (dR (fJ s)).2.2 rfl) ⟨rfl,trivial⟩ ?_;refine ba rfl rfl rfl (aV rfl) ⟨rfl,trivial⟩ ?_;refine ba rfl rfl rfl (aV rfl) ⟨rfl,trivial⟩ ?_;refine ba rfl rfl rfl (aK (t:=Ti) rfl ig cF O) ⟨rfl,rfl,trivial⟩ ?_;refine ba rfl rfl rfl (ao (t:=Ti) rfl cF rfl) ⟨rfl,trivial⟩ ?_;refine ba rfl rfl rfl (bb (t:=Ti) [(.tmp 37,_)] [u] rfl rfl dO (.cons rfl .int .nil) rfl rfl) ⟨rfl,trivial⟩ ?_;refine JS 0 rfl (λv=>[.sl v 3 Ti (x++[u])]) (λ_=>rfl) rfl rfl rfl (bV rfl rfl dO (am X)) ⟨rfl,rfl,trivial⟩ ?_;refine ry 12 [true,true,true,true,true,true,true,true,true,true,true,true] [40] [] [] rfl (by kernel_rfl) (by kernel_rfl) (by kernel_rfl) dS (λvs hv hB=>?_);obtain⟨w0,VQ,rfl,Vz⟩:=ap hv;obtain⟨w1,VP,rfl,Vy⟩:=ap Vz;obtain⟨w2,VO,rfl,Vx⟩:=ap Vy;obtain⟨w3,VN,rfl,Vw⟩:=ap Vx;obtain⟨w4,VM,rfl,Vv⟩:=ap Vw;obtain⟨w5,VL,rfl,Vu⟩:=ap Vv;obtain⟨w6,VK,rfl,Vt⟩:=ap Vu;obtain⟨w7,VJ,rfl,zz⟩:=ap Vt;obtain⟨w8,VI,rfl,qt⟩:=ap zz;obtain⟨w9,VG,rfl,J⟩:=ap qt;obtain⟨VH,VF,rfl,E⟩:=ap J;obtain⟨l,VE,rfl,D⟩:=ap E;obtain rfl:=nZ D;refine⟨[0,1,2],[.sl z8.1 22 .val (gW z8.2 0 y7.2.2.2.2),.obj c 60 (.agg (.pair (.rep Tl e.2.1) (.pair (I e.2.2.1) (.eq (.int .u64 e.2.2.2))))),.sl l 3 Ti (x++[u])],by kernel_rfl,by decide,?_⟩;refine tK rfl rfl rfl rfl (bA (t:=.val) rfl mM dN (fJ s)) ⟨rfl,rfl,trivial⟩ (by kernel_rfl) ?_;refine py 2 rfl ?_;refine P6 λo18=>?_;refine py 1 rfl ?_;refine oq rfl rfl (fj (i:=Int.toNat e.1) rfl dN rfl (oa (fJ s)) rfl (.val o18) o18) ⟨rfl,rfl,trivial⟩ (by kernel_rfl) ?_;refine tL ?_;refine bK (SE.fin (Γ':=[(0,Pt c),(5,.eq z8.1),(6,.rep Tl r4.1),(7,I y7.2.2.2.1)]) (Δ':=[.sl z8.1 22 .val (List.set (gW z8.2 0 y7.2.2.2.2) (Int.toNat e.1) l),.sl l 3 Ti (x++[u]),.obj c 60 (.agg (.pair (.rep Tl e.2.1) (.pair (I e.2.2.1) (.eq (.int .u64 e.2.2.2)))))]) [0,1,2] ⟨rfl,rfl,rfl,rfl,trivial⟩ rfl) ?_;exact λa w st=>⟨rfl,(l),(SE.fin (Γ':=[(0,Pt c),(5,.eq z8.1),(6,.rep Tl r4.1),(7,I y7.2.2.2.1)]) (Δ':=[.sl z8.1 22 .val (List.set (gW z8.2 0 y7.2.2.2.2) (Int.toNat e.1) l),.sl l 3 Ti (x++[u]),.obj c 60 (.agg (.pair (.rep Tl e.2.1) (.pair (I e.2.2.1) (.eq (.int .u64 e.2.2.2)))))]) [0,1,2] ⟨rfl,rfl,rfl,rfl,trivial⟩ rfl) a w st⟩
     .show JN _ _ [(0,Pt c),(5,.eq z8.1),(6,.rep Tl r4.1),(7,I y7.2.2.2.1)] ([.sl z8.1 22 .val (List.set (gW z8.2 0 y7.2.2.2.2) (Int.toNat e.1) l),.sl l 3 Ti (x++[u]),.obj c 60 (.agg (.pair (.rep Tl e.2.1) (.pair (I e.2.2.1) (.eq (.int .u64 e.2.2.2)))))]++(fW z8.2 0 y7.2.2.2.2).eraseIdx (Int.toNat e.1));refine bG 1 rfl ?_;refine bK (Dm (pre:=[.obj c 60 (.agg (.pair (.rep Tl e.2.1) (.pair (I e.2.2.1) (.eq (.int .u64 e.2.2.2)))))]) (z:=z8) (i:=Int.toNat e.1) (gR s).2) ?_;refine bn ?_;exact mZ ((z8.1,oD z8.2 (Int.toNat e.1) l),(e.2.1,e.2.2.1,e.2.2.2,List.set y7.2.2.2.2 (Int.toNat e.1) (x++[u]))) h (li [.obj c 60 (.agg (.pair (.rep Tl e.2.1) (.pair (I e.2.2.1) (.eq (.int .u64 e.2.2.2)))))] (yb 22 (z8.1,oD z8.2 (Int.toNat e.1) l) (List.set y7.2.2.2.2 (Int.toNat e.1) (x++[u]))) [0] ⟨rfl,rfl,rfl,rfl,trivial⟩ rfl)
   .refine ab (mq ?_);obtain⟨mc,M,h⟩:=aa h;refine jb (bj rfl M) ?_;refine aq (nl ?_);exact mZ (y,(x9.1,x9.2.1,x9.2.2.1,mc,x9.2.2.2)) h (li [.obj c 60 (.agg (.pair (.rep Tl x9.1) (.pair (I x9.2.1) (.eq (.int .u64 x9.2.2.1)))))] (yb 22 y x9.2.2.2) [0] ⟨rfl,rfl,rfl,rfl,trivial⟩ rfl)
  .refine xa ?_;exact mZ (z8,(y7.1,y7.2.1,y7.2.2.1,y7.2.2.2.2)) h (li [.obj c 60 (.agg (.pair (.rep Tl y7.1) (.pair (I y7.2.1) (.eq (.int .u64 y7.2.2.1)))))] (yb 22 z8 y7.2.2.2.2) [0] ⟨rfl,trivial⟩ rfl)
 .
  refine sr (mq ?_);refine aq (nt (aA ?_));refine bK (Jv (pre:=[.obj c 60 (.agg (.pair (.rep Tl x5.1) (.pair (I x5.2.1) (.eq (.int .u64 x5.2.2.1)))))])) ?_;refine bK (ic [4,5,41] ⟨rfl,rfl,rfl,trivial⟩) ?_;cases h;exact aP () [_] 1 ⟨rfl,trivial⟩ rfl
def fP(k:Nat)(r2:Int×bJ):Nat->((List Int)×Int×Int×(List (List (List Int)))×Int)->Option ((List (List (List Int)))×(List Int)×Int×Int)
 |0,_=>none
 |n+1,c=>
  if 0 < c.2.2.2.2 then(((((if 0 < (c.2.2.2.1.length:Int) then((eM k (c.1,c.2.1,c.2.2.1) 3).bind λl=>
  some (l.2.1,l.2.2.1,l.2.2.2,l.1)) else(some (c.1,c.2.1,c.2.2.1,false))):Option ((List Int)×Int×Int×Bool)).bind λe=>
  if e.2.2.2=true then((ck ((c.2.2.2.1.length:Int) - 1)).bind λx=>
  (aF c.2.2.2.1 x).bind λu=>
  (iE k u).bind λr=>
  (cL (bD (length c.2.2.2.1+length [r]))).bind λ_=>
  some (e.1,e.2.1,e.2.2.1,c.2.2.2.1++[r])) else((j9 k (e.1,e.2.1,e.2.2.1) r2.1).bind λh=>
  (cL (bD (length c.2.2.2.1+length [h.1]))).bind λ_=>
  some (h.2.1,h.2.2.1,h.2.2.2,c.2.2.2.1++[h.1]))):Option ((List Int)×Int×Int×(List (List (List Int))))).bind λj=>
  (ck (c.2.2.2.2 - 1)).bind λs=>
  fP k r2 n (j.1,j.2.1,j.2.2.1,j.2.2.2,s)) else(some (c.2.2.2.1,c.1,c.2.1,c.2.2.1))
def kg(k:Nat)(a0:bJ)(a1:Int)(a2:Int):Option (ae×bJ):=
 (fZ k (a0.1,a0.2.1,a0.2.2) 1 a1).bind λr2=>
 (bZ k (r2.2.1,r2.2.2.1,r2.2.2.2) 3).bind λr3=>
 (ia k (r3.2.1,r3.2.2.1,r3.2.2.2) [0,1,1,2,r3.1]).bind λr4=>
 (bZ k (r4.2.1,r4.2.2.1,r4.2.2.2) 3).bind λr5=>
 (ia k (r5.2.1,r5.2.2.1,r5.2.2.2) [0,1,2,r5.1]).bind λr6=>
 (fZ k (r6.2.1,r6.2.2.1,r6.2.2.2) 1 3).bind λr7=>
 (ia k (r7.2.1,r7.2.2.1,r7.2.2.2) [1,2,r7.1]).bind λr8=>
 (((fZ k (r8.2.1,r8.2.2.1,r8.2.2.2) 1 a2).bind λe=>
 fP k r2 k (e.2.1,e.2.2.1,e.2.2.2,([]:(List (List (List Int)))),e.1)):Option ((List (List (List Int)))×(List Int)×Int×Int)).bind λc=>
 some ((r2.1,r4.1,r6.1,r8.1,c.1,[]),(c.2.1,c.2.2.1,c.2.2.2))
theorem vi(k:Nat)(a0:bJ)(c:Nat)(a1:Int)(a2:Int)(r:ae×bJ)(h:kg k a0 a1 a2=some r):
 dz Tryz.prog 26 [Pt c,I a1,I a2] [.obj c 60 (.agg (.pair (.rep Tl a0.1) (.pair (I a0.2.1) (.eq (.int .u64 a0.2.2)))))] (λ_:Unit=>(bN [.agg (.pair (I r.1.1) (.pair (I r.1.2.1) (.pair (I r.1.2.2.1) (.pair (I r.1.2.2.2.1) (.pair (.rep (.slice (.slice Tl)) r.1.2.2.2.2.1) (.eq (.slice none 0 0)))))))],[.obj c 60 (.agg (.pair (.rep Tl r.2.1) (.pair (I r.2.2.1) (.eq (.int .u64 r.2.2.2)))))])):=by
 unfold kg at h
 replace h:=bg h
 refine dz.of 67 Tryz.func26 rfl Tryz.ntmps26 rfl λS w0=>?_
 refine sr ?_
 refine aX rfl rfl rfl (be rfl uw yN) trivial λb1=>?_
 refine nt ?_
 refine sr ?_
 iterate 2 refine mq ?_
 obtain⟨r2,VE,h⟩:=aa h
 have VL:=ju k (a0.1,a0.2.1,a0.2.2) c 1 a1 r2 VE
 refine fr 1 ?_
 refine kc (ax [.tmp 10,.const (.int .i64 (1)),.tmp 11] rfl rfl L8 rfl VL) ?_
 iterate 2 refine mq ?_
 obtain⟨r3,VD,h⟩:=aa h
 have VK:=cp k (r2.2.1,r2.2.2.1,r2.2.2.2) c 3 r3 VD
 refine kb (ax [.tmp 14,.const (.int .i64 (3))] rfl rfl I1 rfl VK) ?_
 refine cy rfl (bb (t:=Ti) [(.const (.int .i64 (0)),_),(.const (.int .i64 (1)),_),(.const (.int .i64 (1)),_),(.const (.int .i64 (2)),_),(.tmp 15,_)] [0,1,1,2,r3.1] rfl rfl dO (.cons rfl .int (.cons rfl .int (.cons rfl .int (.cons rfl .int (.cons rfl .int .nil))))) rfl rfl) ⟨rfl,rfl,rfl,rfl,rfl,trivial⟩ ?_
 obtain⟨r4,VC,h⟩:=aa h
 have VJ:=lP k (r3.2.1,r3.2.2.1,r3.2.2.2) c [0,1,1,2,r3.1] r4 VC
 refine kb (ax [.tmp 13,.tmp 16] rfl rfl PG rfl VJ) ?_
 iterate 2 refine mq ?_
 obtain⟨r5,VB,h⟩:=aa h
 have VI:=cp k (r4.2.1,r4.2.2.1,r4.2.2.2) c 3 r5 VB
 refine kb (ax [.tmp 19,.const (.int .i64 (3))] rfl rfl I1 rfl VI) ?_
 refine cy rfl (bb (t:=Ti) [(.const (.int .i64 (0)),_),(.const (.int .i64 (1)),_),(.const (.int .i64 (2)),_),(.tmp 20,_)] [0,1,2,r5.1] rfl rfl dO (.cons rfl .int (.cons rfl .int (.cons rfl .int (.cons rfl .int .nil)))) rfl rfl) ⟨rfl,rfl,rfl,rfl,trivial⟩ ?_
 obtain⟨r6,VA,h⟩:=aa h
 have VH:=lP k (r5.2.1,r5.2.2.1,r5.2.2.2) c [0,1,2,r5.1] r6 VA
 refine kb (ax [.tmp 18,.tmp 21] rfl rfl PG rfl VH) ?_
 iterate 2 refine mq ?_
 obtain⟨r7,Vz,h⟩:=aa h
 have VG:=ju k (r6.2.1,r6.2.2.1,r6.2.2.2) c 1 3 r7 Vz
 refine kc (ax [.tmp 24,.const (.int .i64 (1)),.const (.int .i64 (3))] rfl rfl L8 rfl VG) ?_
 refine jc (bb (t:=Ti) [(.const (.int .i64 (1)),_),(.const (.int .i64 (2)),_),(.tmp 25,_)] [1,2,r7.1] rfl rfl dO (.cons rfl .int (.cons rfl .int (.cons rfl .int .nil))) rfl rfl) ?_
 obtain⟨r8,Vy,h⟩:=aa h
 have VF:=lP k (r7.2.1,r7.2.2.1,r7.2.2.2) c [1,2,r7.1] r8 Vy
 refine kb (ax [.tmp 23,.tmp 26] rfl rfl PG rfl VF) ?_
 refine cy rfl (eE [(0,.tmp 12,_),(1,.tmp 17,_),(2,.tmp 22,_),(3,.tmp 27,_)] rfl QJ uw N6 (jV ⟨rfl,rfl,rfl,rfl,trivial⟩) rfl) ⟨rfl,rfl,rfl,rfl,trivial⟩ ?_
 refine aX rfl rfl rfl (be rfl uw yN) trivial λb9=>?_
 refine aN rfl rfl (aI rfl fE trivial rfl rfl) ⟨rfl,rfl,trivial⟩ ?_
 refine nt ?_
 refine aC (Z:=Value) (α:=(List (List (List Int)))×(List Int)×Int×Int) (λJ y=>[(6,Pt b1),(7,Pt b9)]) (λJ y=>[.obj b1 28 (.agg (.pair (I 0) (.pair (I 0) (.pair (I 0) (.pair (I 0) (.pair (.eq (.slice none 0 0)) (.eq (.slice none 0 0)))))))),.obj b9 28 (.agg (.pair (I r2.1) (.pair (I r4.1) (.pair (I r6.1) (.pair (I r8.1) (.pair (.eq J) (.eq (.slice none 0 0)))))))),.sl J 29 (.slice Tl) y.1,.obj c 60 (.agg (.pair (.rep Tl y.2.1) (.pair (I y.2.2.1) (.eq (.int .u64 y.2.2.2)))))]) h (λK h=>?_) (λJ y h=>?_)
 .
  refine sr ?_;iterate 2 refine mq ?_
  obtain⟨F,zz,h⟩:=aa h;refine fr 1 ?_;refine kc (ax [.tmp 29,.const (.int .i64 (1)),.tmp 30] rfl rfl L8 rfl (ju k (r8.2.1,r8.2.2.1,r8.2.2.2) c 1 a2 F zz)) ?_;refine aq (nt (ai ?_));refine f5 (SE.nil 29 (.slice Tl)) ?_;refine aD (λu e=>[(0,Pt c),(6,Pt b1),(7,Pt b9),(8,I e.2.2.2.2)]) (λu e=>[.obj c 60 (.agg (.pair (.rep Tl e.1) (.pair (I e.2.1) (.eq (.int .u64 e.2.2.1))))),.obj b1 28 (.agg (.pair (I 0) (.pair (I 0) (.pair (I 0) (.pair (I 0) (.pair (.eq (.slice none 0 0)) (.eq (.slice none 0 0)))))))),.obj b9 28 (.agg (.pair (I r2.1) (.pair (I r4.1) (.pair (I r6.1) (.pair (I r8.1) (.pair (.eq u) (.eq (.slice none 0 0)))))))),.sl u 29 (.slice Tl) e.2.2.2.1]) (fP k r2) k (.slice none 0 0) (F.2.1,F.2.2.1,F.2.2.2,([]:(List (List (List Int)))),F.1) (λ_=>rfl) h (SE.fin [1,3,2,0] ⟨rfl,rfl,rfl,rfl,trivial⟩ rfl) (λn u e h=>?_);unfold fP at h;refine ak (sr (mq ?_));refine jb (nm rfl) ?_;refine nt (ci h (λh=>?_) (λh=>?_))
  .refine sk (aC (Z:=Value) (α:=(List Int)×Int×Int×(List (List (List Int)))) (λD l=>[(0,Pt c),(6,Pt b1),(7,Pt b9),(8,I e.2.2.2.2)]) (λD l=>[.obj c 60 (.agg (.pair (.rep Tl l.1) (.pair (I l.2.1) (.eq (.int .u64 l.2.2.1))))),.obj b1 28 (.agg (.pair (I 0) (.pair (I 0) (.pair (I 0) (.pair (I 0) (.pair (.eq (.slice none 0 0)) (.eq (.slice none 0 0)))))))),.obj b9 28 (.agg (.pair (I r2.1) (.pair (I r4.1) (.pair (I r6.1) (.pair (I r8.1) (.pair (.eq D) (.eq (.slice none 0 0)))))))),.sl D 29 (.slice Tl) l.2.2.2]) h (λK h=>?_) (λD l h=>?_))
   .refine ai (ak (sr (fl dh ?_)));refine fr 2 ?_;refine lo ix ?_;refine fr 3 ?_;refine ka (jD rfl rfl vG) ?_;refine aq (nt ?_);refine aC (Z:=Unit) (α:=(List Int)×Int×Int×Bool) (λQ j=>[(0,Pt c),(6,Pt b1),(7,Pt b9),(8,I e.2.2.2.2),(9,I (e.2.2.2.1.length:Int)),(44,.eq (.bool j.2.2.2))]) (λQ j=>[.obj c 60 (.agg (.pair (.rep Tl j.1) (.pair (I j.2.1) (.eq (.int .u64 j.2.2.1))))),.obj b1 28 (.agg (.pair (I 0) (.pair (I 0) (.pair (I 0) (.pair (I 0) (.pair (.eq (.slice none 0 0)) (.eq (.slice none 0 0)))))))),.obj b9 28 (.agg (.pair (I r2.1) (.pair (I r4.1) (.pair (I r6.1) (.pair (I r8.1) (.pair (.eq u) (.eq (.slice none 0 0)))))))),.sl u 29 (.slice Tl) e.2.2.2.1]) h (λK h=>?_) (λQ j h=>?_)
    .refine ab (mq ?_);refine jb (nm rfl) ?_;refine mq ?_;refine cj (s:=41) rfl (λhb=>?_) (λhb=>?_)
     .replace h:=eQ (sG hb) h;refine gm ?_;obtain⟨E,qt,h⟩:=aa h;refine fr 2 ?_;refine mY rfl rfl rfl rfl rfl rfl (ax [.tmp 42,.const (.int .i64 (3))] rfl rfl L6 rfl (im k (e.1,e.2.1,e.2.2.1) c 3 E qt)) ⟨rfl,rfl,trivial⟩ ?_;refine pt (nl ?_);exact jz ((),(E.2.1,E.2.2.1,E.2.2.2,E.1)) h [0,3,2,1]
     .replace h:=cQ (sH hb) h;iterate 2 refine gn ?_
      refine pf (nl ?_);exact jz ((),(e.1,e.2.1,e.2.2.1,false)) h [2,3,1,0]
    .refine cv h (λh=>?_) (λh=>?_)
     .refine ak (cN ?_);refine da (aG rfl dh) ?_;refine ea 2 (ay rfl ix o8 rfl) ?_;refine da (aG rfl dh) ?_;refine ea 2 (ay rfl ix o8 rfl) ?_;refine dm ?_;obtain⟨Vv,X,h⟩:=aa h;refine db (dL rfl X) ?_;obtain⟨Vu,M,h⟩:=aa h;refine eb 3 (bA (t:=(.slice Tl)) rfl vG qm M) ?_;refine ea 3 (ek (i:=Int.toNat Vv) (off:=0) rfl qm (λ_=>rfl) rfl (dR M).2.2 rfl) ?_;obtain⟨O,mw,h⟩:=aa h;refine da (EH (ax [.tmp 52] rfl rfl Ur rfl (ti k Vu O mw))) ?_;refine da (bb (t:=(.slice Tl)) [(.tmp 53,_)] [O] rfl rfl xQ (.cons rfl .rep .nil) rfl rfl) ?_;refine df dS ?_;obtain⟨VN,gw,h⟩:=aa h;refine fr 3 ?_;refine dK rfl rfl rfl (bV rfl rfl xQ (am gw)) ⟨rfl,rfl,trivial⟩ λVx=>?_;refine fl dh ?_;refine pz λo25=>?_;refine fr 3 ?_;refine aN rfl rfl (aI rfl ix o25 rfl rfl) ⟨rfl,rfl,trivial⟩ ?_;refine nt (fK (bM (c6 (au ?_))));exact jz (Vx,(j.1,j.2.1,j.2.2.1,e.2.2.2.1++[O])) h [2,3,0,1]
     .refine sk (cN ?_);refine da (aG rfl dh) ?_;refine ea 2 (ay rfl ix o8 rfl) ?_;refine dm ?_;refine da (aG rfl gG) ?_;refine ea 2 (ay rfl cF o8 rfl) ?_;obtain⟨x,mc,h⟩:=aa h;refine Nu 0 rfl rfl rfl rfl (ax [.tmp 59,.tmp 61] rfl rfl Up rfl (vg k (j.1,j.2.1,j.2.2.1) c r2.1 x mc)) ⟨rfl,rfl,trivial⟩ ?_;refine da (bb (t:=(.slice Tl)) [(.tmp 62,_)] [x.1] rfl rfl xQ (.cons rfl .rep .nil) rfl rfl) ?_;refine Nw (Δ':=[.obj b1 28 (.agg (.pair (I 0) (.pair (I 0) (.pair (I 0) (.pair (I 0) (.pair (.eq (.slice none 0 0)) (.eq (.slice none 0 0)))))))),.obj b9 28 (.agg (.pair (I r2.1) (.pair (I r4.1) (.pair (I r6.1) (.pair (I r8.1) (.pair (.eq u) (.eq (.slice none 0 0)))))))),.sl u 29 (.slice Tl) e.2.2.2.1,.obj c 60 (.agg (.pair (.rep Tl x.2.1) (.pair (I x.2.2.1) (.eq (.int .u64 x.2.2.2)))))]) (by kernel_rfl) dS (by kernel_rfl) ?_;obtain⟨VM,Y,h⟩:=aa h;refine fr 2 ?_;refine dK rfl rfl rfl (bV rfl rfl xQ (am Y)) ⟨rfl,rfl,trivial⟩ λVw=>?_;refine fl dh ?_;refine pz λo29=>?_;refine fr 2 ?_;refine aN rfl rfl (aI rfl ix o29 rfl rfl) ⟨rfl,rfl,trivial⟩ ?_;refine aE (bn ?_);exact jz (Vw,(x.2.1,x.2.2.1,x.2.2.2,e.2.2.2.1++[x.1])) h [3,2,0,1]
   .refine ab (mq ?_);obtain⟨Vt,U,h⟩:=aa h;refine jb (dL rfl U) ?_;refine aq (nl ?_);exact jz (D,(l.1,l.2.1,l.2.2.1,l.2.2.2,Vt)) h [0,1,2,3]
  .refine xa ?_;exact jz (u,(e.2.2.2.1,e.1,e.2.1,e.2.2.1)) h [1,2,3,0]
 .
  refine sr (fr 1 ?_);refine fr 2 ?_;refine eg (lW (off:=4) [] trivial rfl rfl) ?_;refine lo fE ?_;refine fr 1 ?_;refine aN rfl rfl (aI rfl fE trivial rfl rfl) ⟨rfl,rfl,trivial⟩ ?_;refine nt (aA (bK (SE.fin (Γ':=[(6,_)]) [2,0,1] ⟨rfl,trivial⟩ rfl) ?_));cases h;exact aP () [.agg (.pair (I r2.1) (.pair (I r4.1) (.pair (I r6.1) (.pair (I r8.1) (.pair (.rep (.slice (.slice Tl)) y.1) (.eq (.slice none 0 0)))))))] 1 ⟨⟨_,_,_,_,_,rfl,(.tail _ (.head _)),fE,(s7),rfl⟩,trivial⟩ rfl
def fq(k:Nat)(a0:ae)(a1:(List Int)):Nat->(Int×Int)->Option (Except ((Option ae)×Int×Int) Int)
 |0,_=>none
 |n+1,y5=>
  if y5.2 < (a1.length:Int) then((aF a1 y5.2).bind λx7=>
  (ck (a0.1 - 1)).bind λx8=>
  (dP k x7 0 x8).bind λr9=>
  if¬(r9=true) then(some (.error (none,0,3))) else(((if 0 < y5.2 then((ck (y5.2 - 1)).bind λh=>
  (aF a1 h).bind λe=>
  some (decide (x7≤e))) else(some false)):Option (Bool)).bind λj=>
  if j=true then(some (.error (none,0,5))) else((gh k y5.1 x7).bind λl=>
  (ck (y5.2+1)).bind λc=>
  fq k a0 a1 n (l,c)))) else(some (.ok y5.1))
def dG(k:Nat)(a0:ae)(h:Int)(e:(List Int)):Nat->Int->Option (Except ((Option ae)×Int×Int) Unit)
 |0,_=>none
 |n+1,c=>
  if c < (e.length:Int) then((aF e c).bind λu=>
  (ck (a0.1 - 1)).bind λs=>
  (ck ((a0.2.2.2.2.1.length:Int) - 1)).bind λr=>
  (aF [s,r,(a0.2.2.2.2.1.length:Int)] h).bind λl=>
  (dP k u 0 l).bind λx=>
  if¬(x=true) then(some (.error (none,0,3))) else((ck (c+1)).bind λj=>
  dG k a0 h e n j)) else(some (.ok ()))
def cT(k:Nat)(a0:ae)(a2:(List Int))(a3:(List Int))(a4:(List Int)):Nat->Int->Option (Except ((Option ae)×Int×Int) Unit)
 |0,_=>none
 |n+1,c=>
  if c < ([a2,a3,a4].length:Int) then(bE (α:=Unit) ((aF [a2,a3,a4] c).bind λj=>
  dG k a0 c j k 0) (λe=>some (.error e)) λ_=>
  (ck (c+1)).bind λh=>
  cT k a0 a2 a3 a4 n h) else(some (.ok ()))
def j6(k:Nat)(a0:ae)(a1:(List Int))(a2:(List Int))(a3:(List Int))(a4:(List Int)):Option ((Option ae)×Int×Int):=
 (nq k a0).bind λr2=>
 if¬(r2=0) then(some (none,0,r2)) else(bE (α:=Int) (fq k a0 a1 k (0,0)) (some) λx3=>
 bE (α:=Unit) (cT k a0 a2 a3 a4 k 0) (some) λ_=>
 (jp k a0).bind λe=>
 gk e (none) (λc=>(eS k c).bind λh=>
 some (some c,x3,0)))
theorem mt(k:Nat)(a0:ae)(a1:(List Int))(a2:(List Int))(a3:(List Int))(a4:(List Int))(r:(Option ae)×Int×Int)(h:j6 k a0 a1 a2 a3 a4=some r):
 ce (dU Tryz.prog) 31 [.rep an a0,.rep Tl a1,.rep Tl a2,.rep Tl a3,.rep Tl a4] [] (λz:Nat×Nat=>(bN [K1 r.1 z.1,.eq (.int .u8 r.2.1),I r.2.2],K0 r.1 λq=>rA q z.1 z.2 k)):=by
 unfold j6 at h
 replace h:=bg h
 refine ce.of 95 Tryz.func31 rfl Tryz.ntmps31 rfl λS w0=>?_
 refine sr ?_
 refine bx λb1=>?_
 refine cq ?_
 refine cq ?_
 refine cq ?_
 refine nt ?_
 refine ak ?_
 refine sr ?_
 refine lo fE ?_
 obtain⟨r2,VO,h⟩:=aa h
 have VP:=yi k a0 r2 VO
 refine ja (ax [.tmp 22] rfl rfl Un rfl VP) ?_
 refine aq ?_
 refine nt ?_
 refine sr ?_
 refine mq ?_
 refine jb (fL rfl) ?_
 refine nt ?_
 refine cn h (λh=>?_) (λh=>?_)
 .
  refine sr (mq ?_);refine cq ?_;refine cq ?_;refine aq (nt (rx ?_));cases h;exact aP (0,0) [.eq (.pointer none),_,_] 0 ⟨rfl,rfl,rfl,trivial⟩ rfl
 .
  refine sk (sr (cq (nt ?_)));refine dk (Z:=Unit) (α:=Int) (λz4 x3=>[(2,.rep Tl a2),(3,.rep Tl a3),(4,.rep Tl a4),(5,Pt b1),(14,.eq (.int .u8 x3))]) (λz4 x3=>[.obj b1 28 (.rep an a0)]) (λe=>e=r) h (λe h=>Option.some.inj h) (λK hR h=>?_) (λz4 x3 h=>?_)
  .refine sr (mq ?_);refine ol ig ?_;refine fH rfl ?_;refine nt (ai (aD (λz6 y5=>[(1,.rep Tl a1),(2,.rep Tl a2),(3,.rep Tl a3),(4,.rep Tl a4),(5,Pt b1),(14,.eq (.int .u8 y5.1)),(27,.rep Tl a1),(28,I (a1.length:Int)),(29,I y5.2)]) (λz6 y5=>[.obj b1 28 (.rep an a0)]) (fq k a0 a1) k () (0,0) (λ_=>rfl) h (SE.fin [0] ⟨rfl,rfl,rfl,rfl,rfl,rfl,rfl,rfl,rfl,trivial⟩ rfl) (λn z6 y5 h=>?_)));unfold fq at h;refine sr (jb (bo rfl) ?_);refine nt (ak (ci h (λh=>?_) (λh=>?_)))
   .refine sk (ak (ai (sr (mq ?_))));obtain⟨x7,VM,h⟩:=aa h;refine jb (aK (t:=Ti) rfl ig cF VM) ?_;refine ja (ao (t:=Ti) rfl cF rfl) ?_;refine aq ?_;refine aq (nt (ak (sr ?_)));refine mq ?_;refine fl gG ?_;refine lo cF ?_;obtain⟨x8,VL,h⟩:=aa h;refine jb (dL rfl VL) ?_;obtain⟨r9,VN,h⟩:=aa h;refine jc (ax [.tmp 34,.const (.int .i64 (0)),.tmp 37] rfl rfl yC rfl (dY k x7 0 x8 r9 VN)) ?_;refine ja (gZ rfl) ?_;refine nt (cw h (λh=>?_) (λh=>?_))
    .refine sr (cq ?_);refine cq ?_;refine cq (nt (rx (br (bB (bv ?_)))));obtain rfl:=hR _ h;exact aP (0,0) [.eq (.pointer none),_,_] 0 ⟨rfl,rfl,rfl,trivial⟩ rfl
    .refine sk (ak (aC (Z:=Unit) (α:=Bool) (λO y=>[(1,.rep Tl a1),(2,.rep Tl a2),(3,.rep Tl a3),(4,.rep Tl a4),(5,Pt b1),(14,.eq (.int .u8 y5.1)),(16,I x7),(27,.rep Tl a1),(28,I (a1.length:Int)),(29,I y5.2),(50,.eq (.bool y))]) (λO y=>[.obj b1 28 (.rep an a0)]) h (λK h=>?_) (λO y h=>?_)))
     .refine ab (mq ?_);refine jb (nm rfl) ?_;refine mq ?_;refine cj (s:=42) rfl (λhb=>?_) (λhb=>?_)
      .replace h:=eQ (sG hb) h;refine gm ?_;refine gm ?_;refine gm ?_;obtain⟨VT,Vx,h⟩:=aa h;refine gb (dL rfl Vx) ?_;obtain⟨VH,Vw,h⟩:=aa h;refine gb (aK (t:=Ti) rfl ig cF Vw) ?_;refine ga (ao (t:=Ti) rfl cF rfl) ?_;refine gb (zN rfl) ?_;refine pt (nl ?_);exact jz ((),decide (x7≤VH)) h [0]
      .replace h:=cQ (sH hb) h;iterate 7 refine gn ?_
       refine pf (nl ?_);exact jz ((),false) h [0]
     .refine cv h (λh=>?_) (λh=>?_)
      .refine sr (cq ?_);refine cq ?_;refine cq (nt (rx (br (bB (bv ?_)))));obtain rfl:=hR _ h;exact aP (0,0) [.eq (.pointer none),_,_] 0 ⟨rfl,rfl,rfl,trivial⟩ rfl
      .refine sk (ab ?_);iterate 2 refine mq ?_
       obtain⟨Y,VB,h⟩:=aa h;refine jb (ax [.tmp 51,.tmp 52] rfl rfl PE rfl (kG k y5.1 x7 Y VB)) ?_;refine aq (aE (aO (tn (ab ?_))));obtain⟨VG,Vv,h⟩:=aa h;refine jb (bj rfl Vv) ?_;refine mq (nl ?_);exact jz ((),(Y,VG)) h [0]
   .refine xa ?_;exact jz ((),y5.1) h [0]
  .refine dk (Z:=Unit) (α:=Unit) (λM U=>[(5,Pt b1),(14,.eq (.int .u8 x3))]) (λM U=>[.obj b1 28 (.rep an a0)]) (λe=>e=r) h (λe h=>Option.some.inj h) (λK hR h=>?_) (λM U h=>?_)
   .refine sr ?_;iterate 3 refine mq ?_
    refine jc (bb (t:=Tl) [(.tmp 55,_),(.tmp 56,_),(.tmp 57,_)] [a2,a3,a4] rfl rfl l9 (.cons rfl .rep (.cons rfl .rep (.cons rfl .rep .nil))) rfl rfl) ?_;refine ol mM ?_;refine fH rfl ?_;refine nt (ai (aD (λJ c=>[(5,Pt b1),(14,.eq (.int .u8 x3)),(58,.rep (.slice Tl) [a2,a3,a4]),(59,I ([a2,a3,a4].length:Int)),(60,I c)]) (λJ c=>[.obj b1 28 (.rep an a0)]) (cT k a0 a2 a3 a4) k () 0 (λ_=>rfl) h (SE.fin [0] ⟨rfl,rfl,rfl,rfl,rfl,trivial⟩ rfl) (λn J c h=>?_)));unfold cT at h;refine sr (jb (bo rfl) ?_);refine nt (ak (ci h (λh=>?_) (λh=>?_)))
    .refine sk (dk (Z:=Unit) (α:=Unit) (λE Q=>[(5,Pt b1),(14,.eq (.int .u8 x3)),(58,.rep (.slice Tl) [a2,a3,a4]),(59,I ([a2,a3,a4].length:Int)),(60,I c)]) (λE Q=>[.obj b1 28 (.rep an a0)]) (λe=>e=r) h (λe h=>hR e h) (λK hR h=>?_) (λE Q h=>?_))
     .refine ai (sr (mq ?_));obtain⟨x,Vu,h⟩:=aa h;refine jb (aK (t:=Tl) rfl mM dN Vu) ?_;refine ja (ao (t:=Tl) rfl dN rfl) ?_;refine aq ?_;refine aq (nt (sr ?_));refine mq ?_;refine ol ig ?_;refine fH rfl ?_;refine nt (ai (aD (λD u=>[(5,Pt b1),(14,.eq (.int .u8 x3)),(17,I c),(58,.rep (.slice Tl) [a2,a3,a4]),(59,I ([a2,a3,a4].length:Int)),(60,I c),(65,.rep Tl x),(66,I (x.length:Int)),(67,I u)]) (λD u=>[.obj b1 28 (.rep an a0)]) (dG k a0 c x) k () 0 (λ_=>rfl) h (SE.fin [0] ⟨rfl,rfl,rfl,rfl,rfl,rfl,rfl,rfl,rfl,trivial⟩ rfl) (λn D u h=>?_)));unfold dG at h;refine sr (jb (bo rfl) ?_);refine nt (ak (ci h (λh=>?_) (λh=>?_)))
      .refine sk (ak (ai (sr ?_)));obtain⟨VF,Vt,h⟩:=aa h;refine jb (aK (t:=Ti) rfl ig cF Vt) ?_;refine ja (ao (t:=Ti) rfl cF rfl) ?_;refine aq (nt (sr ?_));refine mq ?_;refine fl gG ?_;refine lo cF ?_;obtain⟨VS,zz,h⟩:=aa h;refine jb (dL rfl zz) ?_;refine fl dh ?_;refine lo ix ?_;refine ol vG ?_;obtain⟨VQ,qt,h⟩:=aa h;refine jb (dL rfl qt) ?_;refine fl dh ?_;refine lo ix ?_;refine ol vG ?_;refine jc (Fh rfl R9 cF Qp) ?_;refine mq ?_;obtain⟨VE,mw,h⟩:=aa h;refine jb (o5 (t:=Ti) rfl R9 cF rfl rfl (λ_=>rfl) mw) ?_;obtain⟨VJ,VA,h⟩:=aa h;refine jc (ax [.tmp 71,.const (.int .i64 (0)),.tmp 84] rfl rfl yC rfl (dY k VF 0 VE VJ VA)) ?_;refine ja (gZ rfl) ?_;refine nt (cw h (λh=>?_) (λh=>?_))
       .refine sr (cq ?_);refine cq ?_;refine cq (nt (aA (br (bB (br (bB (bv ?_)))))));obtain rfl:=hR _ h;exact aP (0,0) [.eq (.pointer none),_,_] 0 ⟨rfl,rfl,rfl,trivial⟩ rfl
       .refine bi (aO (tn (ab ?_)));obtain⟨VD,mc,h⟩:=aa h;refine jb (bj rfl mc) ?_;refine mq (nl ?_);exact jz ((),VD) h [0]
      .refine fK (bM (bM (c6 (bn ?_))));exact jz ((),()) h [0]
     .refine ab ?_;obtain⟨VC,gw,h⟩:=aa h;refine jb (bj rfl gw) ?_;refine mq (nl ?_);exact jz ((),VC) h [0]
    .refine xa ?_;exact jz ((),()) h [0]
   .refine sr (lo fE ?_);obtain⟨X,Vz,h⟩:=aa h;have j:=ox k a0 X Vz;rcases hr:X with _ |VK
    .rw [hr] at h j;replace h:=wB h;refine aM (Δ:=[]) (F:=_) (λ_ _ _=>ah rfl _) rfl rfl (ax [.tmp 89] rfl rfl L2 rfl j) ⟨rfl,trivial⟩ λ_=>?_;cases h
    .rw [hr] at h j;replace h:=wA h;refine aM (Δ:=[]) (F:=_) (λ_ _ _=>ah rfl _) rfl rfl (ax [.tmp 89] rfl rfl L2 rfl j) ⟨rfl,trivial⟩ λl=>?_;refine aq (nt (sr ?_));refine mq ?_;obtain⟨VI,Vy,h⟩:=aa h;refine fr 1 ?_;refine fr 1 ?_;refine aM (Δ:=[_,_]) (F:=_) (λ_ _ _=>ah rfl _) rfl rfl (aW [.tmp 91] rfl rfl Um rfl (qQ k VK l.1 l.2 VI Vy)) ⟨rfl,trivial⟩ λ_=>?_;refine nt (sr ?_);iterate 2 refine mq ?_
     refine aq ?_;refine aq ?_;refine cq (nt (aA ?_));cases h;exact aP (l.1,l.2) [.eq (.pointer (some ⟨l.1,0,none⟩)),_,_] 2 ⟨rfl,rfl,rfl,trivial⟩ rfl
def eK(k:Nat)(a0:ae)(r5:(List (List Int)))(x9:Int):Nat->((List (List Int))×Int)->Option (List (List Int))
 |0,_=>none
 |n+1,c=>
  if c.2 < x9 then((aF r5 c.2).bind λj=>
  (cL (0≤a0.1/\a0.1≤5)).bind λ_=>
  (iy k (List.take (Int.toNat a0.1) j)).bind λe=>
  (cL (bD (length c.1+length [e]))).bind λ_=>
  (ck (c.2+1)).bind λh=>
  eK k a0 r5 x9 n (c.1++[e],h)) else(some c.1)
def hJ(k:Nat)(a0:ae)(a1:(List Int)):Option ((List (List Int))×Int):=
 (j6 k a0 a1 ([]:(List Int)) ([]:(List Int)) ([]:(List Int))).bind λr2=>
 gk r2.1 (if¬(r2.2.2=0) then(some (([]:(List (List Int))),r2.2.2)) else(none)) (λq3=>if¬(r2.2.2=0) then(some (([]:(List (List Int))),r2.2.2)) else((me k q3 r2.2.1).bind λr5=>
 (((ck ((a0.2.2.2.2.1.length:Int)+1)).bind λx9=>
 eK k a0 r5 x9 k (([]:(List (List Int))),0)):Option ((List (List Int)))).bind λx7=>
 some (x7,0)))
theorem mQ(k:Nat)(a0:ae)(a1:(List Int))(r:(List (List Int))×Int)(h:hJ k a0 a1=some r):
 ce (dU Tryz.prog) 28 [.rep an a0,.rep Tl a1] [] (λ_:Unit=>(bN [.rep (.slice Tl) r.1,I r.2],[])):=by
 unfold hJ at h
 replace h:=bg h
 refine ce.of 43 Tryz.func28 rfl Tryz.ntmps28 rfl λS w0=>?_
 refine sr ?_
 refine bx λb1=>?_
 refine cq ?_
 refine cq ?_
 refine nt ?_
 refine sr ?_
 refine lo fE ?_
 refine mq ?_
 obtain⟨r2,X,h⟩:=aa h
 have j:=mt k a0 a1 ([]:(List Int)) ([]:(List Int)) ([]:(List Int)) r2 X
 rcases hr:r2.1 with _ |q3
 .
  rw [hr] at h j;replace h:=wB h;refine aM (Δ:=[]) (F:=_) (λ_ _ _=>ah rfl _) rfl rfl (bY (N:=[(.tmp 13,.rep an a0),(.tmp 14,.rep Tl a1),(.const (.slice none 0 0),.eq (.slice none 0 0)),(.const (.slice none 0 0),.eq (.slice none 0 0)),(.const (.slice none 0 0),.eq (.slice none 0 0))]) (aW [.tmp 13,.tmp 14,.const (.slice none 0 0),.const (.slice none 0 0),.const (.slice none 0 0)] rfl rfl AC rfl j) λ_ _ _ hn=>⟨hn.1,hn.2.1,(aJ (t:=Tl) (x:=([]:(List Int))) .nil rfl rfl hn.2.2.1),(aJ (t:=Tl) (x:=([]:(List Int))) .nil rfl rfl hn.2.2.2.1),(aJ (t:=Tl) (x:=([]:(List Int))) .nil rfl rfl hn.2.2.2.2.1),trivial⟩) ⟨rfl,rfl,rfl,rfl,rfl,trivial⟩ λ_=>?_;refine mq ?_;refine xr ?_;refine xr ?_;refine xr ?_;refine aq ?_;refine aq ?_;refine aq (nt (ak (sr ?_)));refine mq ?_;refine jb (fL rfl) ?_;refine nt (cn h (λh=>?_) (λh=>?_))
  .refine sr (mq ?_);refine cq ?_;refine aq (nt (rx ?_));refine bK (eV (t:=(.slice Tl)) (x:=([]:(List (List Int)))) 4 rfl .nil rfl rfl) ?_;cases h;exact rb
  .cases h
 .
  rw [hr] at h j;replace h:=wA h;refine aM (Δ:=[]) (F:=_) (λ_ _ _=>ah rfl _) rfl rfl (bY (N:=[(.tmp 13,.rep an a0),(.tmp 14,.rep Tl a1),(.const (.slice none 0 0),.eq (.slice none 0 0)),(.const (.slice none 0 0),.eq (.slice none 0 0)),(.const (.slice none 0 0),.eq (.slice none 0 0))]) (aW [.tmp 13,.tmp 14,.const (.slice none 0 0),.const (.slice none 0 0),.const (.slice none 0 0)] rfl rfl AC rfl j) λ_ _ _ hn=>⟨hn.1,hn.2.1,(aJ (t:=Tl) (x:=([]:(List Int))) .nil rfl rfl hn.2.2.1),(aJ (t:=Tl) (x:=([]:(List Int))) .nil rfl rfl hn.2.2.2.1),(aJ (t:=Tl) (x:=([]:(List Int))) .nil rfl rfl hn.2.2.2.2.1),trivial⟩) ⟨rfl,rfl,rfl,rfl,rfl,trivial⟩ λz4=>?_;refine mq ?_;refine xr ?_;refine xr ?_;refine xr ?_;refine aq ?_;refine aq ?_;refine aq (nt (ak (sr ?_)));refine mq ?_;refine jb (fL rfl) ?_;refine nt (cn h (λh=>?_) (λh=>?_))
  .refine sr (mq ?_);refine cq ?_;refine aq (nt (rx ?_));refine bK (eV (t:=(.slice Tl)) (x:=([]:(List (List Int)))) 4 rfl .nil rfl rfl) ?_;cases h;exact rb
  .refine sk (sr (cq (nt (sr ?_))));iterate 2 refine mq ?_
   obtain⟨r5,U,h⟩:=aa h;refine fr 1 ?_;refine fr 1 ?_;refine aM (Δ:=[_,_]) (F:=_) (λ_ _ _=>ah rfl _) rfl rfl (aW [.tmp 22,.tmp 23] rfl rfl FN rfl (pU k q3 z4.1 z4.2 r2.2.1 r5 U)) ⟨rfl,rfl,trivial⟩ λ_=>?_;refine aX rfl rfl rfl (be rfl zb A1) trivial λb6=>?_;refine aN rfl rfl (aI rfl zy rfl rfl rfl) ⟨rfl,rfl,trivial⟩ ?_;refine eg (jM (t:=(.arr 7 Tr)) (x:=r5) [10] .rep ⟨rfl,trivial⟩) ?_;refine nt (aC (Z:=Value) (α:=(List (List Int))) (λz8 x7=>[(9,.eq z8)]) (λz8 x7=>[.sl z8 22 Tl x7,.inv z4.2 (cg k q3)]) h (λK h=>?_) (λz8 x7 h=>?_))
   .refine sr (fl dh ?_);refine fr 2 ?_;refine lo ix ?_;refine ol vG ?_;obtain⟨x9,Q,h⟩:=aa h;refine jb (bj rfl Q) ?_;refine fH rfl ?_;refine nt (ai (f5 (SE.nil 22 Tl) ?_));refine aD (λe c=>[(2,Pt b1),(9,.eq e),(10,.at (.arr 7 Tr) r5),(28,I x9),(29,I c.2)]) (λe c=>[.obj b1 28 (.rep an a0),.sl e 22 Tl c.1,.inv z4.2 (cg k q3)]) (eK k a0 r5 x9) k (.slice none 0 0) (([]:(List (List Int))),0) (λ_=>rfl) h (SE.fin [1,0,3] ⟨rfl,rfl,rfl,rfl,rfl,trivial⟩ rfl) (λn e c h=>?_);unfold eK at h;refine sr (jb (bo rfl) ?_);refine nt (ak (ci h (λh=>?_) (λh=>?_)))
    .refine sk (ak (ai (sr (mq ?_))));refine aq (nt ?_);refine cN ?_;refine dm ?_;refine dm ?_;obtain⟨M,y,h⟩:=aa h;refine db (cz (t:=Tr) rfl wE fG y) ?_;refine da (aG rfl gG) ?_;refine ea 0 (ay rfl cF o8 rfl) ?_;obtain⟨gw,l,h⟩:=aa h;refine db (wj (t:=Ti) rfl ru cF (am l).1 (am l).2) ?_;obtain⟨s,E,h⟩:=aa h;refine da (EH (ax [.tmp 37] rfl rfl Uo rfl (sN k (List.take (Int.toNat a0.1) M) s E))) ?_;refine da (bb (t:=Tl) [(.tmp 38,_)] [s] rfl rfl l9 (.cons rfl .rep .nil) rfl rfl) ?_;refine df dS ?_;obtain⟨Y,D,h⟩:=aa h;refine fr 1 ?_;refine dK rfl rfl rfl (bV rfl rfl l9 (am D)) ⟨rfl,rfl,trivial⟩ λO=>?_;refine aq (aE (aO (tn (ab ?_))));obtain⟨J,u,h⟩:=aa h;refine jb (bj rfl u) ?_;refine mq (nl ?_);exact jz (O,(c.1++[s],J)) h [1,0,2]
    .refine xa ?_;exact jz (e,c.1) h [1,2]
   .refine sr (mq ?_);refine aq ?_;refine cq (nt (aA ?_));refine bK (ic [4,9,42] ⟨rfl,rfl,rfl,trivial⟩) ?_;cases h;exact rb
def i9(k:Nat)(r2:ae×bJ)(r5:(List (List Int))×Int):Nat->((List Int)×Int×Int×(List bp)×Int)->Option ((List bp)×(List Int)×Int×Int)
 |0,_=>none
 |n+1,c=>
  if 0 < c.2.2.2.2 then((iD k (c.1,c.2.1,c.2.2.1) (r2.1.1,r2.1.2.1,r2.1.2.2.1,r2.1.2.2.2.1,r2.1.2.2.2.2.1,())).bind λe=>
  (aF r5.1 e.1.2.1).bind λl=>
  (aF l e.1.1).bind λh=>
  (cL (bD (length c.2.2.2.1+length [(e.1.1,e.1.2.1,decide (r2.1.2.2.1≤h))]))).bind λ_=>
  (ck (c.2.2.2.2 - 1)).bind λj=>
  i9 k r2 r5 n (e.2.1,e.2.2.1,e.2.2.2,c.2.2.2.1++[(e.1.1,e.1.2.1,decide (r2.1.2.2.1≤h))],j)) else(some (c.2.2.2.1,c.1,c.2.1,c.2.2.1))
def nu(k:Nat)(a0:bJ):Option (ae×(List Int)×(List (List Int))×Bool×bJ):=
 (kg k (a0.1,a0.2.1,a0.2.2) 4 4).bind λr2=>
 (kh k (r2.2.1,r2.2.2.1,r2.2.2.2) r2.1.1).bind λr4=>
 (hJ k (r2.1.1,r2.1.2.1,r2.1.2.2.1,r2.1.2.2.2.1,r2.1.2.2.2.2.1,[]) r4.1).bind λr5=>
 ((if¬(r5.2=0) then(some true) else((lr k (r2.1.1,r2.1.2.1,r2.1.2.2.1,r2.1.2.2.2.1,r2.1.2.2.2.2.1,[]) r5.1).bind λr8=>
 some (!r8))):Option (Bool)).bind λx6=>
 if x6=true then(some ((r2.1.1,r2.1.2.1,r2.1.2.2.1,r2.1.2.2.2.1,r2.1.2.2.2.2.1,[]),([]:(List Int)),([]:(List (List Int))),false,(r4.2.1,r4.2.2.1,r4.2.2.2))) else((((bZ k (r4.2.1,r4.2.2.1,r4.2.2.2) 4).bind λc=>
 i9 k r2 r5 k (c.2.1,c.2.2.1,c.2.2.2,([]:(List bp)),c.1)):Option ((List bp)×(List Int)×Int×Int)).bind λx9=>
 some ((r2.1.1,r2.1.2.1,r2.1.2.2.1,r2.1.2.2.2.1,r2.1.2.2.2.2.1,x9.1),r4.1,r5.1,true,(x9.2.1,x9.2.2.1,x9.2.2.2)))
theorem Am(k:Nat)(a0:bJ)(c:Nat)(r:ae×(List Int)×(List (List Int))×Bool×bJ)(h:nu k a0=some r):
 ce (dU Tryz.prog) 7 [Pt c] [.obj c 60 (.agg (.pair (.rep Tl a0.1) (.pair (I a0.2.1) (.eq (.int .u64 a0.2.2)))))] (λ_:Unit=>(bN [.rep an r.1,.rep Tl r.2.1,.rep (.slice Tl) r.2.2.1,.eq (.bool r.2.2.2.1)],[.obj c 60 (.agg (.pair (.rep Tl r.2.2.2.2.1) (.pair (I r.2.2.2.2.2.1) (.eq (.int .u64 r.2.2.2.2.2.2)))))])):=by
 unfold nu at h
 replace h:=bg h
 refine ce.of 64 Tryz.func7 rfl Tryz.ntmps7 rfl λS w0=>?_
 refine sr ?_
 refine aX rfl rfl rfl (be rfl uw yN) trivial λb1=>?_
 refine cq ?_
 refine cq ?_
 refine cq ?_
 refine nt ?_
 refine sr ?_
 refine mq ?_
 obtain⟨r2,mw,h⟩:=aa h
 have Vt:=vi k (a0.1,a0.2.1,a0.2.2) c 4 4 r2 mw
 refine fr 1 ?_
 refine kc (ax [.tmp 12,.const (.int .i64 (4)),.const (.int .i64 (4))] rfl rfl UE rfl Vt) ?_
 refine aX rfl rfl rfl (be rfl uw yN) trivial λb3=>?_
 refine aN rfl rfl (aI rfl fE trivial rfl rfl) ⟨rfl,rfl,trivial⟩ ?_
 refine nt ?_
 refine sr ?_
 refine mq ?_
 refine fl gG ?_
 refine lo cF ?_
 obtain⟨r4,mc,h⟩:=aa h
 have zz:=vl k (r2.2.1,r2.2.2.1,r2.2.2.2) c r2.1.1 r4 mc
 refine fr 1 ?_
 refine kb (ax [.tmp 14,.tmp 16] rfl rfl UD rfl zz) ?_
 refine aq ?_
 refine nt ?_
 refine sr ?_
 refine fr 1 ?_
 refine lo fE ?_
 refine mq ?_
 obtain⟨r5,gw,h⟩:=aa h
 have qt:=mQ k (r2.1.1,r2.1.2.1,r2.1.2.2.1,r2.1.2.2.2.1,r2.1.2.2.2.2.1,[]) r4.1 r5 gw
 refine jb (bY (N:=[(.tmp 19,.agg (.pair (I r2.1.1) (.pair (I r2.1.2.1) (.pair (I r2.1.2.2.1) (.pair (I r2.1.2.2.2.1) (.pair (.rep (.slice (.slice Tl)) r2.1.2.2.2.2.1) (.eq (.slice none 0 0)))))))),(.tmp 20,.rep Tl r4.1)]) (aW [.tmp 19,.tmp 20] rfl rfl PI rfl qt) λ_ _ _ hn=>⟨(aJ (t:=an) (x:=(r2.1.1,r2.1.2.1,r2.1.2.2.1,r2.1.2.2.2.1,r2.1.2.2.2.2.1,[])) (.agg (.pair .int (.pair .int (.pair .int (.pair .int (.pair .rep .nil)))))) trivial rfl hn.1),hn.2.1,trivial⟩) ?_
 refine mq ?_
 refine xr ?_
 refine xr ?_
 refine aq ?_
 refine aq ?_
 refine nt ?_
 refine ak ?_
 refine aC (Z:=Unit) (α:=Bool) (λz7 x6=>[(0,Pt c),(2,Pt b1),(6,Pt b3),(7,.rep Tl r4.1),(8,.rep (.slice Tl) r5.1),(31,.eq (.bool x6))]) (λz7 x6=>[.obj c 60 (.agg (.pair (.rep Tl r4.2.1) (.pair (I r4.2.2.1) (.eq (.int .u64 r4.2.2.2))))),.obj b1 28 (.agg (.pair (I 0) (.pair (I 0) (.pair (I 0) (.pair (I 0) (.pair (.eq (.slice none 0 0)) (.eq (.slice none 0 0)))))))),.obj b3 28 (.agg (.pair (I r2.1.1) (.pair (I r2.1.2.1) (.pair (I r2.1.2.2.1) (.pair (I r2.1.2.2.2.1) (.pair (.rep (.slice (.slice Tl)) r2.1.2.2.2.2.1) (.eq (.slice none 0 0))))))))]) h (λK h=>?_) (λz7 x6 h=>?_)
 .
  refine ab (mq ?_);refine jb (fL rfl) ?_;refine mq ?_;refine cj (s:=26) rfl (λhb=>?_) (λhb=>?_)
  .replace h:=eQ (SQ hb) h;iterate 4 refine gn ?_
   refine pt (nl ?_);exact jz ((),true) h [1,2,0]
  .replace h:=cQ (Lp hb) h;refine mY rfl rfl rfl rfl rfl rfl (ay rfl fE (s7) rfl) ⟨rfl,trivial⟩ ?_;refine gm ?_;obtain⟨r8,Y,h⟩:=aa h;refine gb (bY (N:=[(.tmp 27,.agg (.pair (I r2.1.1) (.pair (I r2.1.2.1) (.pair (I r2.1.2.2.1) (.pair (I r2.1.2.2.2.1) (.pair (.rep (.slice (.slice Tl)) r2.1.2.2.2.2.1) (.eq (.slice none 0 0)))))))),(.tmp 28,.rep (.slice Tl) r5.1)]) (ax [.tmp 27,.tmp 28] rfl rfl RI rfl (rX k (r2.1.1,r2.1.2.1,r2.1.2.2.1,r2.1.2.2.2.1,r2.1.2.2.2.2.1,[]) r5.1 r8 Y)) λ_ _ _ hn=>⟨(aJ (t:=an) (x:=(r2.1.1,r2.1.2.1,r2.1.2.2.1,r2.1.2.2.2.1,r2.1.2.2.2.2.1,[])) (.agg (.pair .int (.pair .int (.pair .int (.pair .int (.pair .rep .nil)))))) trivial rfl hn.1),hn.2.1,trivial⟩) ?_;refine ga (gZ rfl) ?_;refine pf (nl ?_);exact jz ((), !r8) h [1,2,0]
 .
  refine cv h (λh=>?_) (λh=>?_)
  .refine sr (fr 2 ?_);refine lo fE ?_;refine fr 2 ?_;refine aN rfl rfl (aI rfl fE trivial rfl rfl) ⟨rfl,rfl,trivial⟩ ?_;refine cq ?_;refine cq ?_;refine cq (nt (rx ?_));refine bK (gq (a:=.agg (.pair (I r2.1.1) (.pair (I r2.1.2.1) (.pair (I r2.1.2.2.1) (.pair (I r2.1.2.2.2.1) (.pair (.rep (.slice (.slice Tl)) r2.1.2.2.2.2.1) (.eq (.slice none 0 0)))))))) (a':=.rep an (r2.1.1,r2.1.2.1,r2.1.2.2.1,r2.1.2.2.2.1,r2.1.2.2.2.2.1,[])) (iY (.agg (.pair .int (.pair .int (.pair .int (.pair .int (.pair .rep .nil)))))))) ?_;refine bK (eV (t:=Tl) (x:=([]:(List Int))) 3 rfl .nil rfl rfl) ?_;refine bK (eV (t:=(.slice Tl)) (x:=([]:(List (List Int)))) 4 rfl .nil rfl rfl) ?_;refine bK (SE.fin (Γ':=[(2,_),(3,_),(4,_),(5,_)]) [2,0,1] ⟨rfl,rfl,rfl,rfl,trivial⟩ rfl) ?_;cases h;exact aP () [.rep an (r2.1.1,r2.1.2.1,r2.1.2.2.1,r2.1.2.2.2.1,r2.1.2.2.2.2.1,[]),_,_,_] 1 ⟨⟨_,_,_,_,_,rfl,(.tail _ (.head _)),fE,(s7),rfl⟩,rfl,rfl,rfl,trivial⟩ rfl
  .refine sk (aC (Z:=Value) (α:=(List bp)×(List Int)×Int×Int) (λy x9=>[(2,Pt b1),(6,Pt b3),(7,.rep Tl r4.1),(8,.rep (.slice Tl) r5.1)]) (λy x9=>[.obj b1 28 (.agg (.pair (I 0) (.pair (I 0) (.pair (I 0) (.pair (I 0) (.pair (.eq (.slice none 0 0)) (.eq (.slice none 0 0)))))))),.obj b3 28 (.agg (.pair (I r2.1.1) (.pair (I r2.1.2.1) (.pair (I r2.1.2.2.1) (.pair (I r2.1.2.2.2.1) (.pair (.rep (.slice (.slice Tl)) r2.1.2.2.2.2.1) (.eq y))))))),.sl y 46 aR x9.1,.obj c 60 (.agg (.pair (.rep Tl x9.2.1) (.pair (I x9.2.2.1) (.eq (.int .u64 x9.2.2.2)))))]) h (λK h=>?_) (λy x9 h=>?_))
   .refine sr (mq ?_);obtain⟨u,Q,h⟩:=aa h;refine kb (ax [.tmp 33,.const (.int .i64 (4))] rfl rfl I1 rfl (cp k (r4.2.1,r4.2.2.1,r4.2.2.2) c 4 u Q)) ?_;refine aq (nt (ai ?_));refine f5 (SE.nil 46 aR) ?_;refine aD (λl e=>[(0,Pt c),(2,Pt b1),(6,Pt b3),(7,.rep Tl r4.1),(8,.rep (.slice Tl) r5.1),(10,I e.2.2.2.2)]) (λl e=>[.obj c 60 (.agg (.pair (.rep Tl e.1) (.pair (I e.2.1) (.eq (.int .u64 e.2.2.1))))),.obj b1 28 (.agg (.pair (I 0) (.pair (I 0) (.pair (I 0) (.pair (I 0) (.pair (.eq (.slice none 0 0)) (.eq (.slice none 0 0)))))))),.obj b3 28 (.agg (.pair (I r2.1.1) (.pair (I r2.1.2.1) (.pair (I r2.1.2.2.1) (.pair (I r2.1.2.2.2.1) (.pair (.rep (.slice (.slice Tl)) r2.1.2.2.2.2.1) (.eq l))))))),.sl l 46 aR e.2.2.2.1]) (i9 k r2 r5) k (.slice none 0 0) (u.2.1,u.2.2.1,u.2.2.2,([]:(List bp)),u.1) (λ_=>rfl) h (SE.fin [1,2,3,0] ⟨rfl,rfl,rfl,rfl,rfl,rfl,trivial⟩ rfl) (λn l e h=>?_);unfold i9 at h;refine ak (sr (mq ?_));refine jb (nm rfl) ?_;refine nt (ci h (λh=>?_) (λh=>?_))
    .refine sk (ak (ai (sr (mq ?_))));refine fr 2 ?_;refine lo fE ?_;obtain⟨j,O,h⟩:=aa h;refine fr 1 ?_;refine kb (bY (N:=[(.tmp 39,Pt c),(.tmp 40,.agg (.pair (I r2.1.1) (.pair (I r2.1.2.1) (.pair (I r2.1.2.2.1) (.pair (I r2.1.2.2.2.1) (.pair (.rep (.slice (.slice Tl)) r2.1.2.2.2.2.1) (.eq l)))))))]) (ax [.tmp 39,.tmp 40] rfl rfl UC rfl (tg k (e.1,e.2.1,e.2.2.1) c (r2.1.1,r2.1.2.1,r2.1.2.2.1,r2.1.2.2.2.1,r2.1.2.2.2.2.1,()) j O)) λ_ _ _ hn=>⟨hn.1,(MS (t:=(.pair Ti (.pair Ti (.pair Ti (.pair Ti (.pair (.slice (.slice Tl)) .ign)))))) (x:=(r2.1.1,r2.1.2.1,r2.1.2.2.1,r2.1.2.2.2.1,r2.1.2.2.2.2.1,())) (pB (iY .int) (pB (iY .int) (pB (iY .int) (pB (iY .int) (pB (iY .rep) Nx))))) hn.2.1),trivial⟩) ?_;refine aX rfl rfl rfl (be rfl Br Jj) trivial λVw=>?_;refine aN rfl rfl (aI rfl sM rfl rfl rfl) ⟨rfl,rfl,trivial⟩ ?_;refine nt (ak (cN ?_));refine dm ?_;refine da (aG rfl CP) ?_;refine ea 0 (ay rfl cF o8 rfl) ?_;obtain⟨Vu,J,h⟩:=aa h;refine db (aK (t:=Tl) rfl mM dN J) ?_;refine da (ao (t:=Tl) rfl dN rfl) ?_;refine da (aG rfl CQ) ?_;refine ea 0 (ay rfl cF o8 rfl) ?_;obtain⟨D,F,h⟩:=aa h;refine db (aK (t:=Ti) rfl ig cF F) ?_;refine da (ao (t:=Ti) rfl cF rfl) ?_;refine da (aG rfl yw) ?_;refine ea 2 (ay rfl cF o8 rfl) ?_;refine df dS ?_;refine jb (jX rfl) ?_;refine fl IV ?_;refine aN rfl rfl (aI rfl UX rfl rfl rfl) ⟨rfl,rfl,trivial⟩ ?_;refine nt (ab (fl vu ?_));refine fr 2 ?_;refine lo Hg ?_;refine fr 1 ?_;refine lo sM ?_;refine ja (bb (t:=aR) [(.tmp 57,_)] [(j.1.1,j.1.2.1,decide (r2.1.2.2.1≤D))] rfl rfl KO (.cons trivial (.agg (.pair .rep (.pair .rep .bool))) .nil) rfl rfl) ?_;obtain⟨Vv,M,h⟩:=aa h;refine fr 4 ?_;refine dK rfl rfl rfl (bV rfl rfl KO (am M)) ⟨rfl,rfl,trivial⟩ λX=>?_;refine fl vu ?_;refine pz λo20=>?_;refine fr 2 ?_;refine aN rfl rfl (aI rfl Hg o20 rfl rfl) ⟨rfl,rfl,trivial⟩ ?_;refine aE (aO (tn (ab (mq ?_))));obtain⟨U,E,h⟩:=aa h;refine jb (dL rfl E) ?_;refine aq (nl ?_);exact jz (X,(j.2.1,j.2.2.1,j.2.2.2,e.2.2.2.1++[(j.1.1,j.1.2.1,decide (r2.1.2.2.1≤D))],U)) h [3,4,0,1]
    .refine xa ?_;exact jz (l,(e.2.2.2.1,e.1,e.2.1,e.2.2.1)) h [1,2,3,0]
   .refine sr (fr 1 ?_);refine fr 2 ?_;refine eg (lW (off:=5) [] trivial rfl rfl) ?_;refine lo fE ?_;iterate 2 refine mq ?_
    refine fr 1 ?_;refine aN rfl rfl (aI rfl fE trivial rfl rfl) ⟨rfl,rfl,trivial⟩ ?_;refine aq ?_;refine aq ?_;refine cq (nt (aA ?_));refine bK (gq (a:=.agg (.pair (I r2.1.1) (.pair (I r2.1.2.1) (.pair (I r2.1.2.2.1) (.pair (I r2.1.2.2.2.1) (.pair (.rep (.slice (.slice Tl)) r2.1.2.2.2.2.1) (Rs aR x9.1))))))) (a':=.rep an (r2.1.1,r2.1.2.1,r2.1.2.2.1,r2.1.2.2.2.1,r2.1.2.2.2.2.1,x9.1)) (iY (.agg (.pair .int (.pair .int (.pair .int (.pair .int (.pair .rep .rep)))))))) ?_;refine bK (SE.fin (Γ':=[(2,_),(3,_),(4,_),(5,_)]) [2,0,1] ⟨rfl,rfl,rfl,rfl,trivial⟩ rfl) ?_;cases h;exact aP () [.rep an (r2.1.1,r2.1.2.1,r2.1.2.2.1,r2.1.2.2.2.1,r2.1.2.2.2.2.1,x9.1),_,_,_] 1 ⟨⟨_,_,_,_,_,rfl,(.tail _ (.head _)),fE,(s7),rfl⟩,rfl,rfl,rfl,trivial⟩ rfl
def cE(k:Nat)(a0:ae)(a2:Int)(r1:(List (List Int))):Nat->Int->Option Bool
 |0,_=>none
 |n+1,y3=>
  if y3 < (a0.2.2.2.2.2.length:Int) then((aF a0.2.2.2.2.2 y3).bind λx5=>
  (((eI k a2 y3).bind λr9=>
  if¬(r9=true) then((aF r1 x5.2.1).bind λh=>
  (aF h x5.1).bind λe=>
  some (!decide ((decide (a0.2.2.1≤e))=x5.2.2))) else(some false)):Option (Bool)).bind λx7=>
  if x7=true then(some false) else((ck (y3+1)).bind λc=>
  cE k a0 a2 r1 n c)) else(some true)
def gK(k:Nat)(a0:ae)(a1:Int)(a2:Int):Option Bool:=
 (me k a0 a1).bind λr1=>
 cE k a0 a2 r1 k 0
theorem pg(k:Nat)(a0:ae)(c z_a0:Nat)(a1:Int)(a2:Int)(r:Bool)(h:gK k a0 a1 a2=some r):
 Dt (dU Tryz.prog) 99 [Pt c,.eq (.int .u8 a1),.eq (.int .u8 a2)] [.obj c 124 (aU a0 z_a0),.inv z_a0 (cg k a0)] (.iface 154 (.agg #[])) r:=by
 unfold gK at h
 replace h:=bg h
 refine Dt.of 48 Tryz.func99 rfl Tryz.ntmps99 rfl λS w0=>?_
 refine sr ?_
 iterate 2 refine mq ?_
 obtain⟨r1,E,h⟩:=aa h
 have J:=pU k a0 c z_a0 a1 r1 E
 refine fr 1 ?_
 refine fr 1 ?_
 refine aM (Δ:=[_,_]) (F:=_) (λ_ _ _=>ah rfl _) rfl rfl (aW [.tmp 9,.tmp 10] rfl rfl FN rfl J) ⟨rfl,rfl,trivial⟩ λ_=>?_
 refine aX rfl rfl rfl (be rfl zb A1) trivial λb2=>?_
 refine aN rfl rfl (aI rfl zy rfl rfl rfl) ⟨rfl,rfl,trivial⟩ ?_
 refine eg (jM (t:=(.arr 7 Tr)) (x:=r1) [6] .rep ⟨rfl,trivial⟩) ?_
 refine nt ?_
 refine sr ?_
 refine mq ?_
 refine ja (cP rfl) ?_
 refine fl io ?_
 refine fl vu ?_
 refine lo Hg ?_
 refine ol R7 ?_
 refine fH rfl ?_
 refine nt ?_
 refine ai ?_
 refine aD (λz4 y3=>[(0,Pt c),(2,.eq (.int .u8 a2)),(6,.at (.arr 7 Tr) r1),(16,Rs aR a0.2.2.2.2.2),(17,I (a0.2.2.2.2.2.length:Int)),(18,I y3)]) (λz4 y3=>[.obj c 124 (aU a0 z_a0),.inv z_a0 (cg k a0)]) (cE k a0 a2 r1) k () 0 (λ_=>rfl) h (SE.fin [0,1] ⟨rfl,rfl,rfl,rfl,rfl,rfl,trivial⟩ rfl) (λn z4 y3 h=>?_)
 unfold cE at h
 refine sr ?_
 refine jb (bo rfl) ?_
 refine nt ?_
 refine ak ?_
 refine ci h (λh=>?_) (λh=>?_)
 .
  refine sk (ak (ai (sr (mq ?_))));obtain⟨x5,y,h⟩:=aa h;refine jb (aK (t:=aR) rfl R7 sM y) ?_;refine ja (ao (t:=aR) rfl sM rfl) ?_;refine aX rfl rfl rfl (be rfl Br Jj) trivial λb6=>?_;refine aq ?_;refine aN rfl rfl (aI rfl sM rfl rfl rfl) ⟨rfl,rfl,trivial⟩ ?_;refine nt (aC (Z:=Unit) (α:=Bool) (λz8 x7=>[(0,Pt c),(2,.eq (.int .u8 a2)),(6,.at (.arr 7 Tr) r1),(16,Rs aR a0.2.2.2.2.2),(17,I (a0.2.2.2.2.2.length:Int)),(18,I y3),(44,.eq (.bool x7))]) (λz8 x7=>[.obj c 124 (aU a0 z_a0),.inv z_a0 (cg k a0)]) h (λK h=>?_) (λz8 x7 h=>?_))
  .refine cN ?_;refine dm ?_;refine dm ?_;obtain⟨r9,D,h⟩:=aa h;refine db (ax [.tmp 23,.tmp 24] rfl rfl I2 rfl (g9 k a2 y3 r9 D)) ?_;refine da (gZ rfl) ?_;refine uv rfl rfl rfl (aV rfl) ⟨rfl,trivial⟩ (λhb=>?_) (λhb=>?_)
   .replace h:=eQ (zQ hb) h;refine dn rfl rfl rfl rfl rfl (aG rfl CP) ⟨rfl,rfl,trivial⟩ ?_;refine ir 0 rfl rfl rfl rfl rfl rfl (ay rfl cF o8 rfl) ⟨rfl,rfl,trivial⟩ ?_;refine dn rfl rfl rfl rfl rfl (aG rfl CQ) ⟨rfl,rfl,trivial⟩ ?_;refine ir 0 rfl rfl rfl rfl rfl rfl (ay rfl cF o8 rfl) ⟨rfl,rfl,trivial⟩ ?_;obtain⟨M,l,h⟩:=aa h;refine dn rfl rfl rfl rfl rfl (cz (t:=Tr) rfl wE fG l) ⟨rfl,rfl,rfl,trivial⟩ ?_;obtain⟨u,j,h⟩:=aa h;refine dn rfl rfl rfl rfl rfl (cz (t:=Ti) rfl ru cF j) ⟨rfl,rfl,rfl,trivial⟩ ?_;refine dn rfl rfl rfl rfl rfl (ao (t:=Ti) rfl cF rfl) ⟨rfl,rfl,trivial⟩ ?_;refine dn rfl rfl rfl rfl rfl (aV rfl) ⟨rfl,rfl,trivial⟩ ?_;refine dn rfl rfl rfl rfl rfl (cP rfl) ⟨rfl,rfl,trivial⟩ ?_;refine dn rfl rfl rfl rfl rfl (aG rfl io) ⟨rfl,rfl,trivial⟩ ?_;refine dn rfl rfl rfl rfl rfl (aG rfl yw) ⟨rfl,rfl,trivial⟩ ?_;refine ir 1 rfl rfl rfl rfl rfl rfl (ay rfl cF o8 rfl) ⟨rfl,rfl,trivial⟩ ?_;refine dn rfl rfl rfl rfl rfl (jX rfl) ⟨rfl,rfl,rfl,trivial⟩ ?_;refine dn rfl rfl rfl rfl rfl (aG rfl IV) ⟨rfl,rfl,trivial⟩ ?_;refine ir 0 rfl rfl rfl rfl rfl rfl (ay rfl UX o8 rfl) ⟨rfl,rfl,trivial⟩ ?_;refine df dS ?_;refine gb (OX rfl U4) ?_;refine pt (nl ?_);exact jz ((), !decide ((decide (a0.2.2.1≤u))=x5.2.2)) h [1,2]
   .replace h:=cQ (tQ hb) h;iterate 15 refine dg ?_
    refine df dS ?_;refine gn ?_;refine pf (nl ?_);exact jz ((),false) h [1,2]
  .refine cv h (λh=>?_) (λh=>?_)
   .refine ab (cy rfl (H2 rfl P1 Qo) trivial ?_);refine ja (HW rfl P1) ?_;refine Gm rfl rfl rfl rfl ?_;refine Ba ?_;refine tN ?_;refine tN ?_;refine Ba ?_;refine bK (SE.fin (Γ':=[]) [0,1] trivial rfl) ?_;cases h;exact Nk
   .refine bi (aO (tn (ab ?_)));obtain⟨s,e,h⟩:=aa h;refine jb (bj rfl e) ?_;refine mq (nl ?_);exact jz ((),s) h [0,1]
 .
  refine fK (bM (bM (c6 (kz ?_))));refine bK (SE.fin (Γ':=[]) [0,1] trivial rfl) ?_;cases h;exact aP () [] 2 trivial rfl
def dp(k:Nat)(a0:ae)(a1:Int)(a2:Int):Option Bool:=gK k a0 a1 a2
theorem NK:P2 Tryz.prog 154 (.agg #[]):=⟨⟨_,P1⟩,λw=>by kernel_rfl⟩
theorem I4:∀(S:FS) (w:World),(A.rep (.arr 0 Ti) []).holds S w (.agg #[]):=λ_ _=>⟨[],⟨rfl,rfl⟩,rfl⟩
theorem Nz:∀w,(zeroValue 154).run Tryz.prog w= .ok (.agg #[]) w:=λw=>by kernel_rfl
theorem N8:∀S w,(A.cells S w (.rep (.arr 0 Ti) []) (Value.cells (.agg #[])).toList):=λ_ _=>⟨rfl,rfl⟩
theorem NN:eF Tryz.prog 154 0 true:=⟨λw=>by kernel_rfl,λw=>by kernel_rfl⟩
theorem T9:ag Tryz.prog 98:=ag.of Tryz.func98 (by kernel_rfl) (by kernel_rfl)
theorem Ru:ag Tryz.prog 99:=ag.of Tryz.func99 (by kernel_rfl) (by kernel_rfl)
theorem KB:eF Tryz.prog 4 1 false:=⟨λw=>by kernel_rfl,λw=>by kernel_rfl⟩
theorem Tn:∀w,(zeroValue 4).run Tryz.prog w= .ok (.bool false) w:=λw=>by kernel_rfl
theorem UM:∀S w,(A.cells S w (.eq (.bool false)) (Value.cells (.bool false)).toList):=λ_ _=>⟨rfl,rfl⟩
theorem AO:yW Tryz.prog 98 (.iface 154 (.agg #[])) 4 (.bool false):=by
 refine⟨T9,λM e0=>?_,λM e0=>?_⟩
 .refine l6.of (M:=M) (m:=.returning) (m1:=.returning) (val:=.nilIface) Tryz.func98 rfl rfl (by decide) rfl rfl (by decide) (λρ=>rfl) (λfr b cs hb hm=>Hy hb hm rfl) (.inl rfl) λb S w0=>?_;refine ja (K4 I4 rfl NK) ?_;refine mq ?_;refine xr ?_;refine xr ?_;refine aX rfl rfl rfl (be rfl Nz N8) trivial λb1=>?_;refine aN rfl rfl (aI rfl NN rfl rfl rfl) ⟨rfl,rfl,trivial⟩ ?_;refine aq (nt (sr ?_));refine mq (nt ?_);refine iq rfl (λhb=>by cases hb) (λhb=>?_);refine bi (kz ?_);refine bK (SE.fin (Γ':=[]) [1] trivial rfl) ?_;exact aP () [] 1 trivial rfl
 .refine l6.of (M:=M) (m:=.panicking (iw (.iface 154 (.agg #[])) false)) (m1:=.panicking (iw (.iface 154 (.agg #[])) true)) (val:=.iface 154 (.agg #[])) Tryz.func98 rfl rfl (by decide) rfl rfl (by decide) (λρ=>rfl) (λfr b cs hb hm=>Hw hb hm) (.inr ⟨_,rfl⟩) λb S w0=>?_;refine ja (K3 I4 rfl NK) ?_;refine mq ?_;refine xr ?_;refine xr ?_;refine aX rfl rfl rfl (be rfl Nz N8) trivial λb1=>?_;refine aN rfl rfl (aI rfl NN rfl rfl rfl) ⟨rfl,rfl,trivial⟩ ?_;refine aq (nt (sr ?_));refine mq (nt ?_);refine iq rfl (λhb=>?_) (λhb=>by cases hb);refine ab (fr 1 ?_);refine aN rfl rfl (aI rfl KB rfl rfl rfl) ⟨rfl,rfl,trivial⟩ ?_;refine aE (kz ?_);refine bK (SE.fin (Γ':=[]) [0] trivial rfl) ?_;exact aP () [] 1 trivial rfl
theorem oH(k:Nat)(a0:ae)(c z_a0:Nat)(a1:Int)(a2:Int)(r:Bool)(h:dp k a0 a1 a2=some r):
 ce (dU Tryz.prog) 68 [Pt c,.eq (.int .u8 a1),.eq (.int .u8 a2)] (rA a0 c z_a0 k) (λ_:Unit=>(bN [.eq (.bool r)],rA a0 c z_a0 k)):=by
 have cr:=pg k a0 c z_a0 a1 a2 r h
 refine Be 12 Tryz.func68 rfl Tryz.ntmps68 rfl λS w0=>?_
 refine sr ?_
 refine aX rfl rfl rfl (be rfl Tn UM) trivial λb6=>?_
 refine nt ?_
 refine sr ?_
 refine ja (sU [] [.tmp 6] [] [(Pv b6)] rfl rfl rfl) ?_
 refine JF rfl rfl rfl rfl rfl ?_
 refine nt ?_
 refine sr ?_
 iterate 3 refine mq ?_
 refine fr 2 ?_
 refine fr 2 ?_
 cases r with
 |false=>
  refine JG (Ss:=[Pt c,.eq (.int .u8 a1),.eq (.int .u8 a2)]) (Δ:=rA a0 c z_a0 k) (F:=[.obj b6 4 (.eq (.bool false))]) [.tmp 8,.tmp 9,.tmp 10] rfl rfl rfl rfl Ru ⟨rfl,rfl,rfl,trivial⟩ cr ?_;refine tN ?_;refine bK (SE.fin (Γ':=[(6,_)]) [2,0,1] ⟨rfl,trivial⟩ rfl) ?_;refine Gn AO ?_;refine bK (SE.fin (Γ':=[(6,_)]) [1,2,0] ⟨rfl,trivial⟩ rfl) ?_;exact aP () [.eq (.bool false)] 2 ⟨⟨_,_,_,_,_,rfl,(.tail _ (.tail _ (.head _))),KB,(λ_=>rfl),rfl⟩,trivial⟩ rfl
 |true=>
  refine aM (Δ:=rA a0 c z_a0 k) (F:=[.obj b6 4 (.eq (.bool false))]) (λ_ _ _=>ah rfl _) rfl rfl (aW [.tmp 8,.tmp 9,.tmp 10] rfl rfl Ru rfl cr.ok) ⟨rfl,rfl,rfl,trivial⟩ λ_=>?_;refine nt (sr (fr 2 ?_));refine aN rfl rfl (aI rfl KB rfl rfl rfl) ⟨rfl,rfl,trivial⟩ ?_;refine nt (aA (Nj AO ?_));refine bK (SE.fin (Γ':=[(6,_)]) [1,2,0] ⟨rfl,trivial⟩ rfl) ?_;exact aP () [.eq (.bool true)] 2 ⟨⟨_,_,_,_,_,rfl,(.tail _ (.tail _ (.head _))),KB,(λ_=>rfl),rfl⟩,trivial⟩ rfl
def eP(k:Nat)(a0:ae)(a1:Int):Option (List Int):=
 (i8 k (oO (λ(y5:(List Int)) (p7:Int)=>
  (dp k a0 p7 a1).bind λr9=>
  if r9=true then((cL (bD (length y5+length [p7]))).bind λ_=>
  some (y5++[p7],true)) else(some (y5,true)))) a0.1 (([]:(List Int)),false)).bind λr8=>
 if r8.2=true then(none) else(some r8.1)
theorem kM(k:Nat)(a0:ae)(c z_a0:Nat)(a1:Int)(r:(List Int))(h:eP k a0 a1=some r):
 ce (dU Tryz.prog) 32 [Pt c,.eq (.int .u8 a1)] [.obj c 124 (aU a0 z_a0),.inv z_a0 (cg k a0)] (λ_:Unit=>(bN [.rep (.slice (.int .u8)) r],[.obj c 124 (aU a0 z_a0),.inv z_a0 (cg k a0)])):=by
 unfold eP at h
 replace h:=bg h
 refine vQ 23 Tryz.func32 rfl Tryz.ntmps32 rfl λS w0=>?_
 refine sr ?_
 refine bx λb1=>?_
 refine bx λb2=>?_
 refine cq ?_
 refine nt ?_
 refine sr ?_
 refine aX rfl rfl rfl (be rfl J3 MR) trivial λb3=>?_
 refine nt ?_
 refine ak ?_
 refine sr ?_
 refine fr 2 ?_
 refine lo Kz ?_
 refine ja (cP rfl) ?_
 refine fl io ?_
 refine fl gG ?_
 refine fr 3 ?_
 refine lo cF ?_
 refine aX rfl rfl rfl (ax [.tmp 11] rfl rfl RG rfl (rV a0.1)) ⟨rfl,trivial⟩ λb4=>?_
 refine nt ?_
 refine ai ?_
 refine f5 (SE.nil 66 (.int .u8)) ?_
 refine dy 6 rfl ?_
 refine dy 6 rfl ?_
 refine dy 2 rfl ?_
 refine dy 6 rfl ?_
 refine dy 6 rfl ?_
 refine dy 6 rfl ?_
 refine dy 6 rfl ?_
 obtain⟨r8,s,h⟩:=aa h
 refine sD (Δ:=[.obj b4 3 (I a0.1),.obj c 124 (aU a0 z_a0),.obj b1 65 (Pt c),.obj b3 69 (.eq (.slice none 0 0)),.sl (.slice none 0 0) 66 (.int .u8) ([]:(List Int)),.obj b2 66 (.eq (.int .u8 a1)),.inv z_a0 (cg k a0)]) (F:=[]) (X:=Value) (J:=λ_=>Ql r8.2) (E:=λz6=>[.obj b4 3 (I a0.1),.obj c 124 (aU a0 z_a0),.obj b1 65 (Pt c),.obj b3 69 (.eq z6),.sl z6 66 (.int .u8) r8.1,.obj b2 66 (.eq (.int .u8 a1)),.inv z_a0 (cg k a0)]) (r0:=λ_=>.tup .any) rfl rfl RB (λrec hp ha hb hs hpe hN hv l=>?_) (λdl z6=>uC (λhj=>?_) (λhj=>?_))
 .
  rcases rec with⟨st0,pe0,fn0,tm0,ps0,as0,bd0,df0⟩;dsimp only at hp ha hb hs hpe hN hv;subst hp hs hpe;have vN:A4 tm0 [(2,Pt b1),(3,Pt b2),(5,Pt b3)]:=⟨congrArg A.eq (hv 2 _ rfl).symm,congrArg A.eq (hv 3 _ rfl).symm,congrArg A.eq (hv 5 _ rfl).symm,trivial⟩;refine ce.pick (M:=(dU Tryz.prog)) [1,0,2,3,4,5,6,7] [1,0,2,3,4,5,6,7] (pi (λ(z6:Value) (q:(List Int)×Bool)=>[.raw l (.loop (kD ⟨.ready,none,fn0,tm0, #[13],as0,bd0,df0⟩ (Ql q.2))),.obj c 124 (aU a0 z_a0),.obj b1 65 (Pt c),.obj b3 69 (.eq z6),.sl z6 66 (.int .u8) q.1,.obj b2 66 (.eq (.int .u8 a1)),.inv z_a0 (cg k a0)]) l (oO (λ(y5:(List Int)) (p7:Int)=>
  (dp k a0 p7 a1).bind λr9=>
  if r9=true then((cL (bD (length y5+length [p7]))).bind λ_=>
  some (y5++[p7],true)) else(some (y5,true)))) k a0.1 b4 (λz6 q p r' h=>?_) (.slice none 0 0) (([]:(List Int)),false) r8 s) rfl (λ_=>rfl) (λ_=>rfl)
  obtain⟨rq,hq,h2,rfl⟩:=uD h;obtain⟨y5,b5⟩:=q;obtain rfl:b5=false:=hq;replace h:=bg h2;obtain⟨p7,hpv⟩:∃x,x=p:=⟨_,rfl⟩;subst hpv;refine YT.pick (R':=(λz6:Value=>(.eq (.bool rq.2),[.raw l (.loop (kD ⟨.ready,none,fn0,tm0, #[13],as0,bd0,df0⟩ (Ql (!rq.2)))),.obj c 124 (aU a0 z_a0),.obj b1 65 (Pt c),.obj b3 69 (.eq z6),.sl z6 66 (.int .u8) rq.1,.obj b2 66 (.eq (.int .u8 a1)),.inv z_a0 (cg k a0)]))) [0,1,2,3,4,5,6] [0,1,2,3,4,5,6] (Jk ha hb (N:=23) (Γ:=[(2,Pt b1),(3,Pt b2),(5,Pt b3)]) rfl hN (by decide) vN (λS w=>?_)) rfl (λ_=>rfl) (λ_=>rfl);refine ab (aq (nl ?_));refine Bc rfl rfl ?_;refine ai (sr (fr 2 ?_));refine lo Kz ?_;refine mq ?_;refine fr 5 ?_;refine lo qE ?_;obtain⟨r9,n,h⟩:=aa h;refine fr 6 ?_;refine fr 4 ?_;refine aM (Δ:=[_,_]) (F:=_) (λ_ _ _=>ah rfl _) rfl rfl (aW [.tmp 14,.tmp 15,.tmp 16] rfl rfl Ul rfl (oH k a0 c z_a0 p7 a1 r9 n)) ⟨rfl,rfl,rfl,trivial⟩ λ_=>?_;refine nt (cv h (λh=>?_) (λh=>?_))
  .refine ab (fr 5 ?_);refine lo xP ?_;refine mq ?_;refine ja (bb (t:=(.int .u8)) [(.tmp 19,_)] [p7] rfl rfl KN (.cons rfl .int .nil) rfl rfl) ?_;obtain⟨u,e,h⟩:=aa h;refine fr 6 ?_;refine dK rfl rfl rfl (bV rfl rfl KN (am e)) ⟨rfl,rfl,trivial⟩ λj=>?_;refine pz λo12=>?_;refine fr 1 ?_;refine aN rfl rfl (aI rfl xP o12 rfl rfl) ⟨rfl,rfl,trivial⟩ ?_;refine aE (aO (bG 3 rfl ?_));refine bG 4 rfl ?_;refine bG 3 rfl ?_;refine bG 3 rfl ?_;refine bG 5 rfl ?_;refine bG 5 rfl ?_;refine bG 6 rfl ?_;cases h;exact qh j 6 rfl
  .refine bi (aO (bG 1 rfl ?_));refine bG 2 rfl ?_;refine bG 6 rfl ?_;refine bG 6 rfl ?_;refine bG 5 rfl ?_;refine bG 5 rfl ?_;refine bG 6 rfl ?_;cases h;exact qh z6 6 rfl
 .
  replace h:=cQ (NJ hj) h;refine aO (tn (sr (fr 4 ?_)));refine lo xP ?_;refine aq (nt (aA ?_));refine bG 5 rfl ?_;refine bK (lW (off:=0) [4,22] ⟨rfl,rfl,trivial⟩ rfl rfl) ?_;refine bG 1 rfl ?_;refine EM ?_;refine bK (SE.fin (Γ':=[(4,_)]) [2,5,0,1,3,4] ⟨rfl,trivial⟩ rfl) ?_;cases h;exact aP () [_] 2 ⟨rfl,trivial⟩ rfl
 .
  replace h:=eQ (NG hj) h;cases h
def eL(k:Nat)(r7:(List Int)):Nat->((List (List Int))×Int)->Option (List (List Int))
 |0,_=>none
 |n+1,y8=>
  if y8.2 < (r7.length:Int) then((aF r7 y8.2).bind λh=>
  (fp k h).bind λc=>
  (cL (bD (length y8.1+length [c]))).bind λ_=>
  (ck (y8.2+1)).bind λe=>
  eL k r7 n (y8.1++[c],e)) else(some y8.1)
def iU(k:Nat)(a0:ae):Option ((List (List Int))×Int):=
 (j6 k a0 ([]:(List Int)) ([]:(List Int)) ([]:(List Int)) ([]:(List Int))).bind λr2=>
 gk r2.1 (if¬(r2.2.2=0) then(some (([]:(List (List Int))),r2.2.2)) else(none)) (λq3=>if¬(r2.2.2=0) then(some (([]:(List (List Int))),r2.2.2)) else((((eP k q3 0).bind λr7=>
 eL k r7 k (([]:(List (List Int))),0)):Option ((List (List Int)))).bind λx5=>
 some (x5,0)))
theorem qy(k:Nat)(a0:ae)(r:(List (List Int))×Int)(h:iU k a0=some r):
 ce (dU Tryz.prog) 8 [.rep an a0] [] (λ_:Unit=>(bN [.rep (.slice Tl) r.1,I r.2],[])):=by
 unfold iU at h
 replace h:=bg h
 refine ce.of 33 Tryz.func8 rfl Tryz.ntmps8 rfl λS w0=>?_
 refine sr ?_
 refine bx λb1=>?_
 refine cq ?_
 refine cq ?_
 refine nt ?_
 refine sr ?_
 refine lo fE ?_
 obtain⟨r2,M,h⟩:=aa h
 have c:=mt k a0 ([]:(List Int)) ([]:(List Int)) ([]:(List Int)) ([]:(List Int)) r2 M
 rcases hr:r2.1 with _ |q3
 .
  rw [hr] at h c;replace h:=wB h;refine aM (Δ:=[]) (F:=_) (λ_ _ _=>ah rfl _) rfl rfl (bY (N:=[(.tmp 11,.rep an a0),(.const (.slice none 0 0),.eq (.slice none 0 0)),(.const (.slice none 0 0),.eq (.slice none 0 0)),(.const (.slice none 0 0),.eq (.slice none 0 0)),(.const (.slice none 0 0),.eq (.slice none 0 0))]) (aW [.tmp 11,.const (.slice none 0 0),.const (.slice none 0 0),.const (.slice none 0 0),.const (.slice none 0 0)] rfl rfl AC rfl c) λ_ _ _ hn=>⟨hn.1,(aJ (t:=Tl) (x:=([]:(List Int))) .nil rfl rfl hn.2.1),(aJ (t:=Tl) (x:=([]:(List Int))) .nil rfl rfl hn.2.2.1),(aJ (t:=Tl) (x:=([]:(List Int))) .nil rfl rfl hn.2.2.2.1),(aJ (t:=Tl) (x:=([]:(List Int))) .nil rfl rfl hn.2.2.2.2.1),trivial⟩) ⟨rfl,rfl,rfl,rfl,rfl,trivial⟩ λ_=>?_;refine mq ?_;refine xr ?_;refine xr ?_;refine xr ?_;refine aq ?_;refine aq ?_;refine aq (nt (ak (sr ?_)));refine mq ?_;refine jb (fL rfl) ?_;refine nt (cn h (λh=>?_) (λh=>?_))
  .refine sr (mq ?_);refine cq ?_;refine aq (nt (rx ?_));refine bK (eV (t:=(.slice Tl)) (x:=([]:(List (List Int)))) 2 rfl .nil rfl rfl) ?_;cases h;exact rb
  .cases h
 .
  rw [hr] at h c;replace h:=wA h;refine aM (Δ:=[]) (F:=_) (λ_ _ _=>ah rfl _) rfl rfl (bY (N:=[(.tmp 11,.rep an a0),(.const (.slice none 0 0),.eq (.slice none 0 0)),(.const (.slice none 0 0),.eq (.slice none 0 0)),(.const (.slice none 0 0),.eq (.slice none 0 0)),(.const (.slice none 0 0),.eq (.slice none 0 0))]) (aW [.tmp 11,.const (.slice none 0 0),.const (.slice none 0 0),.const (.slice none 0 0),.const (.slice none 0 0)] rfl rfl AC rfl c) λ_ _ _ hn=>⟨hn.1,(aJ (t:=Tl) (x:=([]:(List Int))) .nil rfl rfl hn.2.1),(aJ (t:=Tl) (x:=([]:(List Int))) .nil rfl rfl hn.2.2.1),(aJ (t:=Tl) (x:=([]:(List Int))) .nil rfl rfl hn.2.2.2.1),(aJ (t:=Tl) (x:=([]:(List Int))) .nil rfl rfl hn.2.2.2.2.1),trivial⟩) ⟨rfl,rfl,rfl,rfl,rfl,trivial⟩ λz4=>?_;refine mq ?_;refine xr ?_;refine xr ?_;refine xr ?_;refine aq ?_;refine aq ?_;refine aq (nt (ak (sr ?_)));refine mq ?_;refine jb (fL rfl) ?_;refine nt (cn h (λh=>?_) (λh=>?_))
  .refine sr (mq ?_);refine cq ?_;refine aq (nt (rx ?_));refine bK (eV (t:=(.slice Tl)) (x:=([]:(List (List Int)))) 2 rfl .nil rfl rfl) ?_;cases h;exact rb
  .refine sk (sr (cq (nt ?_)));refine aC (Z:=Value) (α:=(List (List Int))) (λz6 x5=>[(7,.eq z6)]) (λz6 x5=>[.sl z6 22 Tl x5,.inv z4.2 (cg k q3)]) h (λK h=>?_) (λz6 x5 h=>?_)
   .refine sr (mq ?_);obtain⟨r7,J,h⟩:=aa h;refine fr 1 ?_;refine fr 1 ?_;refine aM (Δ:=[_,_]) (F:=_) (λ_ _ _=>ah rfl _) rfl rfl (aW [.tmp 19,.const (.int .u8 (0))] rfl rfl RH rfl (kM k q3 z4.1 z4.2 0 r7 J)) ⟨rfl,rfl,trivial⟩ λ_=>?_;refine ol Bo ?_;refine fH rfl ?_;refine nt (ai (f5 (SE.nil 22 Tl) ?_));refine aD (λz9 y8=>[(7,.eq z9),(20,.rep (.slice (.int .u8)) r7),(21,I (r7.length:Int)),(22,I y8.2)]) (λz9 y8=>[.sl z9 22 Tl y8.1,.inv z4.2 (cg k q3)]) (eL k r7) k (.slice none 0 0) (([]:(List (List Int))),0) (λ_=>rfl) h (SE.fin [0,2] ⟨rfl,rfl,rfl,rfl,trivial⟩ rfl) (λn z9 y8 h=>?_);unfold eL at h;refine sr (jb (bo rfl) ?_);refine nt (ak (ci h (λh=>?_) (λh=>?_)))
    .refine sk (ak (ai (sr ?_)));obtain⟨D,l,h⟩:=aa h;refine jb (aK (t:=(.int .u8)) rfl Bo qE l) ?_;refine ja (ao (t:=(.int .u8)) rfl qE rfl) ?_;refine aq (nt (ab ?_));iterate 2 refine mq ?_
     obtain⟨e,u,h⟩:=aa h;refine ja (ax [.tmp 27] rfl rfl PH rfl (kH k D e u)) ?_;refine ja (bb (t:=Tl) [(.tmp 28,_)] [e] rfl rfl l9 (.cons rfl .rep .nil) rfl rfl) ?_;obtain⟨O,s,h⟩:=aa h;refine dK rfl rfl rfl (bV rfl rfl l9 (am s)) ⟨rfl,rfl,trivial⟩ λE=>?_;refine aq (aE (aO (tn (ab ?_))));obtain⟨y,j,h⟩:=aa h;refine jb (bj rfl j) ?_;refine mq (nl ?_);exact jz (E,(y8.1++[e],y)) h [0,1]
    .refine xa ?_;exact jz (z9,y8.1) h [0,1]
   .refine sr (mq ?_);refine aq ?_;refine cq (nt (aA ?_));refine bK (ic [2,7,32] ⟨rfl,rfl,rfl,trivial⟩) ?_;cases h;exact rb
def jG(k:Nat)(a0:ae)(a1:(List Int))(a2:(List Int))(a3:(List Int)):Option ((Option ae)×(List Int)×Int):=
 (j6 k a0 ([]:(List Int)) a1 a2 a3).bind λr2=>
 gk r2.1 (if¬(r2.2.2=0) then(some (none,([]:(List Int)),r2.2.2)) else(none)) (λq3=>if¬(r2.2.2=0) then(some (none,([]:(List Int)),r2.2.2)) else((eP k q3 0).bind λr5=>
 if(r5.length:Int)=0 then(some (none,([]:(List Int)),9)) else(some (some q3,r5,0))))
theorem nT(k:Nat)(a0:ae)(a1:(List Int))(a2:(List Int))(a3:(List Int))(r:(Option ae)×(List Int)×Int)(h:jG k a0 a1 a2 a3=some r):
 ce (dU Tryz.prog) 35 [.rep an a0,.rep Tl a1,.rep Tl a2,.rep Tl a3] [] (λz:Nat×Nat=>(bN [K1 r.1 z.1,.rep (.slice (.int .u8)) r.2.1,I r.2.2],K0 r.1 λq=>rA q z.1 z.2 k)):=by
 unfold jG at h
 replace h:=bg h
 refine ce.of 34 Tryz.func35 rfl Tryz.ntmps35 rfl λS w0=>?_
 refine sr ?_
 refine bx λb1=>?_
 refine cq ?_
 refine cq ?_
 refine cq ?_
 refine nt ?_
 refine sr ?_
 refine lo fE ?_
 iterate 3 refine mq ?_
 obtain⟨r2,j,h⟩:=aa h
 have c:=mt k a0 ([]:(List Int)) a1 a2 a3 r2 j
 rcases hr:r2.1 with _ |q3
 .
  rw [hr] at h c;replace h:=wB h;refine aM (Δ:=[]) (F:=_) (λ_ _ _=>ah rfl _) rfl rfl (bY (N:=[(.tmp 16,.rep an a0),(.const (.slice none 0 0),.eq (.slice none 0 0)),(.tmp 17,.rep Tl a1),(.tmp 18,.rep Tl a2),(.tmp 19,.rep Tl a3)]) (aW [.tmp 16,.const (.slice none 0 0),.tmp 17,.tmp 18,.tmp 19] rfl rfl AC rfl c) λ_ _ _ hn=>⟨hn.1,(aJ (t:=Tl) (x:=([]:(List Int))) .nil rfl rfl hn.2.1),hn.2.2.1,hn.2.2.2.1,hn.2.2.2.2.1,trivial⟩) ⟨rfl,rfl,rfl,rfl,rfl,trivial⟩ λ_=>?_;refine mq ?_;refine xr ?_;refine xr ?_;refine xr ?_;refine aq ?_;refine aq ?_;refine aq (nt (ak (sr ?_)));refine mq ?_;refine jb (fL rfl) ?_;refine nt (cn h (λh=>?_) (λh=>?_))
  .refine sr (mq ?_);refine cq ?_;refine cq ?_;refine aq (nt (rx ?_));refine bK (eV (t:=(.slice (.int .u8))) (x:=([]:(List Int))) 9 rfl .nil rfl rfl) ?_;cases h;exact aP (0,0) [.eq (.pointer none),_,_] 0 ⟨rfl,rfl,rfl,trivial⟩ rfl
  .cases h
 .
  rw [hr] at h c;replace h:=wA h;refine aM (Δ:=[]) (F:=_) (λ_ _ _=>ah rfl _) rfl rfl (bY (N:=[(.tmp 16,.rep an a0),(.const (.slice none 0 0),.eq (.slice none 0 0)),(.tmp 17,.rep Tl a1),(.tmp 18,.rep Tl a2),(.tmp 19,.rep Tl a3)]) (aW [.tmp 16,.const (.slice none 0 0),.tmp 17,.tmp 18,.tmp 19] rfl rfl AC rfl c) λ_ _ _ hn=>⟨hn.1,(aJ (t:=Tl) (x:=([]:(List Int))) .nil rfl rfl hn.2.1),hn.2.2.1,hn.2.2.2.1,hn.2.2.2.2.1,trivial⟩) ⟨rfl,rfl,rfl,rfl,rfl,trivial⟩ λz4=>?_;refine mq ?_;refine xr ?_;refine xr ?_;refine xr ?_;refine aq ?_;refine aq ?_;refine aq (nt (ak (sr ?_)));refine mq ?_;refine jb (fL rfl) ?_;refine nt (cn h (λh=>?_) (λh=>?_))
  .refine sr (mq ?_);refine cq ?_;refine cq ?_;refine aq (nt (rx ?_));refine bK (eV (t:=(.slice (.int .u8))) (x:=([]:(List Int))) 9 rfl .nil rfl rfl) ?_;cases h;exact aP (0,0) [.eq (.pointer none),_,_] 0 ⟨rfl,rfl,rfl,trivial⟩ rfl
  .refine sk (sr (mq ?_));obtain⟨r5,e,h⟩:=aa h;refine fr 1 ?_;refine fr 1 ?_;refine aM (Δ:=[_,_]) (F:=_) (λ_ _ _=>ah rfl _) rfl rfl (aW [.tmp 27,.const (.int .u8 (0))] rfl rfl RH rfl (kM k q3 z4.1 z4.2 0 r5 e)) ⟨rfl,rfl,trivial⟩ λ_=>?_;refine aq (nt (ak (sr ?_)));refine mq ?_;refine ol Bo ?_;refine jb (jm rfl) ?_;refine nt (ci h (λh=>?_) (λh=>?_))
   .refine sr (cq ?_);refine cq ?_;refine cq (nt (rx ?_));refine bK (eV (t:=(.slice (.int .u8))) (x:=([]:(List Int))) 9 rfl .nil rfl rfl) ?_;cases h;exact aP (0,0) [.eq (.pointer none),_,_] 0 ⟨rfl,rfl,rfl,trivial⟩ rfl
   .refine sk (sr ?_);iterate 2 refine mq ?_
    refine aq ?_;refine aq ?_;refine cq (nt (aA ?_));cases h;exact aP (z4.1,z4.2) [.eq (.pointer (some ⟨z4.1,0,none⟩)),_,_] 2 ⟨rfl,rfl,rfl,trivial⟩ rfl
def dZ(k:Nat)(a1:Int)(a2:Int)(y4:(List (List (List Int)))×Int)(h:(List Int)):Nat->((List Int)×Int)->Option (List Int)
 |0,_=>none
 |n+1,c=>
  if c.2 < (h.length:Int) then((((aF h c.2).bind λe=>
  ((if y4.2 < a1 then(some true) else((eI k a2 e).bind λs=>
  some (!s))):Option (Bool)).bind λl=>
  if l=true then((cL (bD (length c.1+length [e]))).bind λ_=>
  some (c.1++[e])) else(some c.1)):Option ((List Int))).bind λr=>
  (ck (c.2+1)).bind λj=>
  dZ k a1 a2 y4 h n (r,j)) else(some c.1)
def d4(k:Nat)(a1:Int)(a2:Int)(y4:(List (List (List Int)))×Int)(x8:(List (List Int))):Nat->((List (List Int))×Int)->Option (List (List Int))
 |0,_=>none
 |n+1,c=>
  if c.2 < (x8.length:Int) then((((aF x8 c.2).bind λj=>
  ((dZ k a1 a2 y4 j k (([]:(List Int)),0)):Option ((List Int))).bind λe=>
  (cL (bD (length c.1+length [e]))).bind λ_=>
  some (c.1++[e])):Option ((List (List Int)))).bind λl=>
  (ck (c.2+1)).bind λh=>
  d4 k a1 a2 y4 x8 n (l,h)) else(some c.1)
def eJ(k:Nat)(a0:ae)(a1:Int)(a2:Int):Nat->((List (List (List Int)))×Int)->Option (List (List (List Int)))
 |0,_=>none
 |n+1,y4=>
  if y4.2 < (a0.2.2.2.2.1.length:Int) then((((aF a0.2.2.2.2.1 y4.2).bind λx8=>
  ((d4 k a1 a2 y4 x8 k (([]:(List (List Int))),0)):Option ((List (List Int)))).bind λx9=>
  (cL (bD (length y4.1+length [x9]))).bind λ_=>
  some (y4.1++[x9])):Option ((List (List (List Int))))).bind λx6=>
  (ck (y4.2+1)).bind λc=>
  eJ k a0 a1 a2 n (x6,c)) else(some y4.1)
def iT(k:Nat)(a0:ae)(a1:Int)(a2:Int):Option (Option ae):=
 ((eJ k a0 a1 a2 k (([]:(List (List (List Int)))),0)):Option ((List (List (List Int))))).bind λx2=>
 (jp k (a0.1,a0.2.1,a0.2.2.1,a0.2.2.2.1,x2,a0.2.2.2.2.2)).bind λc=>
 gk c (some none) (λe=>some (some e))
theorem ww(k:Nat)(a0:ae)(a1:Int)(a2:Int)(r:(Option ae))(h:iT k a0 a1 a2=some r):
 dz Tryz.prog 37 [.rep an a0,I a1,.eq (.int .u8 a2)] [] (λz:Nat×Nat=>(bN [K1 r z.1],K0 r λq=>rA q z.1 z.2 k)):=by
 unfold iT at h
 replace h:=bg h
 refine dz.of 69 Tryz.func37 rfl Tryz.ntmps37 rfl λS w0=>?_
 refine sr ?_
 refine bx λb1=>?_
 refine cq ?_
 refine nt ?_
 refine sr ?_
 refine fl dh ?_
 refine lo ix ?_
 refine mq ?_
 refine ja (sU [.tmp 19] [] [(.int .u8 a2)] [] rfl rfl rfl) ?_
 refine aq ?_
 refine aq ?_
 refine nt ?_
 refine sr ?_
 refine fl dh ?_
 refine aN rfl rfl (aI rfl ix rfl rfl rfl) ⟨rfl,rfl,trivial⟩ ?_
 refine nt ?_
 refine aC (Z:=Value) (α:=(List (List (List Int)))) (λz3 x2=>[(3,Pt b1)]) (λz3 x2=>[.obj b1 28 (.agg (.pair (I a0.1) (.pair (I a0.2.1) (.pair (I a0.2.2.1) (.pair (I a0.2.2.2.1) (.pair (.eq z3) (Rs aR a0.2.2.2.2.2))))))),.sl z3 29 (.slice Tl) x2]) h (λK h=>?_) (λz3 x2 h=>?_)
 .
  refine sr (mq ?_);refine ol vG ?_;refine fH rfl ?_;refine nt (ai (f5 (SE.nil 29 (.slice Tl)) ?_));refine dy 1 rfl ?_;refine f5 (gq (a:=.agg (.pair (.rep Ti a0.1) (.pair (.rep Ti a0.2.1) (.pair (.rep Ti a0.2.2.1) (.pair (.rep Ti a0.2.2.2.1) (.pair (.eq (.slice none 0 0)) (Rs aR a0.2.2.2.2.2))))))) (a':=.agg (.pair (I a0.1) (.pair (I a0.2.1) (.pair (I a0.2.2.1) (.pair (I a0.2.2.2.1) (.pair (.eq (.slice none 0 0)) (Rs aR a0.2.2.2.2.2))))))) (AE.agg (AE.pair AE.int (AE.pair AE.int (AE.pair AE.int (AE.pair AE.int AE.rfl)))))) ?_;refine aD (λz5 y4=>[(1,I a1),(3,Pt b1),(8,.eq (.func (.func 69) #[(.int .u8 a2)] #[])),(22,.rep (.slice (.slice Tl)) a0.2.2.2.2.1),(23,I (a0.2.2.2.2.1.length:Int)),(24,I y4.2)]) (λz5 y4=>[.obj b1 28 (.agg (.pair (I a0.1) (.pair (I a0.2.1) (.pair (I a0.2.2.1) (.pair (I a0.2.2.2.1) (.pair (.eq z5) (Rs aR a0.2.2.2.2.2))))))),.sl z5 29 (.slice Tl) y4.1]) (eJ k a0 a1 a2) k (.slice none 0 0) (([]:(List (List (List Int)))),0) (λ_=>rfl) h (SE.fin [0,1] ⟨rfl,rfl,rfl,rfl,rfl,rfl,trivial⟩ rfl) (λn z5 y4 h=>?_);unfold eJ at h;refine sr (jb (bo rfl) ?_);refine nt (ak (ci h (λh=>?_) (λh=>?_)))
  .refine sk (aC (Z:=Value) (α:=(List (List (List Int)))) (λz7 x6=>[(1,I a1),(3,Pt b1),(8,.eq (.func (.func 69) #[(.int .u8 a2)] #[])),(22,.rep (.slice (.slice Tl)) a0.2.2.2.2.1),(23,I (a0.2.2.2.2.1.length:Int)),(24,I y4.2)]) (λz7 x6=>[.obj b1 28 (.agg (.pair (I a0.1) (.pair (I a0.2.1) (.pair (I a0.2.2.1) (.pair (I a0.2.2.2.1) (.pair (.eq z7) (Rs aR a0.2.2.2.2.2))))))),.sl z7 29 (.slice Tl) x6]) h (λK h=>?_) (λz7 x6 h=>?_))
   .refine ai (sr (mq ?_));obtain⟨x8,VI,h⟩:=aa h;refine jb (aK (t:=(.slice Tl)) rfl vG qm VI) ?_;refine ja (ao (t:=(.slice Tl)) rfl qm rfl) ?_;refine aq ?_;refine aq (nt (sr ?_));refine cq (nt ?_);refine aC (Z:=Value) (α:=(List (List Int))) (λQ x9=>[(1,I a1),(3,Pt b1),(8,.eq (.func (.func 69) #[(.int .u8 a2)] #[])),(11,.eq Q),(22,.rep (.slice (.slice Tl)) a0.2.2.2.2.1),(23,I (a0.2.2.2.2.1.length:Int)),(24,I y4.2)]) (λQ x9=>[.obj b1 28 (.agg (.pair (I a0.1) (.pair (I a0.2.1) (.pair (I a0.2.2.1) (.pair (I a0.2.2.2.1) (.pair (.eq z5) (Rs aR a0.2.2.2.2.2))))))),.sl z5 29 (.slice Tl) y4.1,.sl Q 22 Tl x9]) h (λK h=>?_) (λQ x9 h=>?_)
    .refine sr (mq ?_);refine ol mM ?_;refine fH rfl ?_;refine nt (ai (f5 (SE.nil 22 Tl) ?_));refine aD (λe c=>[(1,I a1),(3,Pt b1),(8,.eq (.func (.func 69) #[(.int .u8 a2)] #[])),(9,I y4.2),(11,.eq e),(22,.rep (.slice (.slice Tl)) a0.2.2.2.2.1),(23,I (a0.2.2.2.2.1.length:Int)),(24,I y4.2),(29,.rep (.slice Tl) x8),(30,I (x8.length:Int)),(31,I c.2)]) (λe c=>[.obj b1 28 (.agg (.pair (I a0.1) (.pair (I a0.2.1) (.pair (I a0.2.2.1) (.pair (I a0.2.2.2.1) (.pair (.eq z5) (Rs aR a0.2.2.2.2.2))))))),.sl z5 29 (.slice Tl) y4.1,.sl e 22 Tl c.1]) (d4 k a1 a2 y4 x8) k (.slice none 0 0) (([]:(List (List Int))),0) (λ_=>rfl) h (SE.fin [1,2,0] ⟨rfl,rfl,rfl,rfl,rfl,rfl,rfl,rfl,rfl,rfl,rfl,trivial⟩ rfl) (λn e c h=>?_);unfold d4 at h;refine sr (jb (bo rfl) ?_);refine nt (ak (ci h (λh=>?_) (λh=>?_)))
     .refine sk (aC (Z:=Value) (α:=(List (List Int))) (λE X=>[(1,I a1),(3,Pt b1),(8,.eq (.func (.func 69) #[(.int .u8 a2)] #[])),(9,I y4.2),(11,.eq E),(22,.rep (.slice (.slice Tl)) a0.2.2.2.2.1),(23,I (a0.2.2.2.2.1.length:Int)),(24,I y4.2),(29,.rep (.slice Tl) x8),(30,I (x8.length:Int)),(31,I c.2)]) (λE X=>[.obj b1 28 (.agg (.pair (I a0.1) (.pair (I a0.2.1) (.pair (I a0.2.2.1) (.pair (I a0.2.2.2.1) (.pair (.eq z5) (Rs aR a0.2.2.2.2.2))))))),.sl z5 29 (.slice Tl) y4.1,.sl E 22 Tl X]) h (λK h=>?_) (λE X h=>?_))
      .refine ai (sr ?_);obtain⟨u,Vw,h⟩:=aa h;refine jb (aK (t:=Tl) rfl mM dN Vw) ?_;refine ja (ao (t:=Tl) rfl dN rfl) ?_;refine aq (nt (sr ?_));refine cq (nt ?_);refine aC (Z:=Value) (α:=(List Int)) (λO M=>[(1,I a1),(3,Pt b1),(8,.eq (.func (.func 69) #[(.int .u8 a2)] #[])),(9,I y4.2),(11,.eq e),(14,.eq O),(22,.rep (.slice (.slice Tl)) a0.2.2.2.2.1),(23,I (a0.2.2.2.2.1.length:Int)),(24,I y4.2),(29,.rep (.slice Tl) x8),(30,I (x8.length:Int)),(31,I c.2)]) (λO M=>[.obj b1 28 (.agg (.pair (I a0.1) (.pair (I a0.2.1) (.pair (I a0.2.2.1) (.pair (I a0.2.2.2.1) (.pair (.eq z5) (Rs aR a0.2.2.2.2.2))))))),.sl z5 29 (.slice Tl) y4.1,.sl e 22 Tl c.1,.sl O 3 Ti M]) h (λK h=>?_) (λO M h=>?_)
       .refine sr (mq ?_);refine ol ig ?_;refine fH rfl ?_;refine nt (ai (f5 (SE.nil 3 Ti) ?_));refine aD (λl j=>[(1,I a1),(3,Pt b1),(8,.eq (.func (.func 69) #[(.int .u8 a2)] #[])),(9,I y4.2),(11,.eq e),(14,.eq l),(22,.rep (.slice (.slice Tl)) a0.2.2.2.2.1),(23,I (a0.2.2.2.2.1.length:Int)),(24,I y4.2),(29,.rep (.slice Tl) x8),(30,I (x8.length:Int)),(31,I c.2),(35,.rep Tl u),(36,I (u.length:Int)),(37,I j.2)]) (λl j=>[.obj b1 28 (.agg (.pair (I a0.1) (.pair (I a0.2.1) (.pair (I a0.2.2.1) (.pair (I a0.2.2.2.1) (.pair (.eq z5) (Rs aR a0.2.2.2.2.2))))))),.sl z5 29 (.slice Tl) y4.1,.sl e 22 Tl c.1,.sl l 3 Ti j.1]) (dZ k a1 a2 y4 u) k (.slice none 0 0) (([]:(List Int)),0) (λ_=>rfl) h (SE.fin [1,2,3,0] ⟨rfl,rfl,rfl,rfl,rfl,rfl,rfl,rfl,rfl,rfl,rfl,rfl,rfl,rfl,rfl,trivial⟩ rfl) (λn l j h=>?_);unfold dZ at h;refine sr (jb (bo rfl) ?_);refine nt (ak (ci h (λh=>?_) (λh=>?_)))
        .refine sk (aC (Z:=Value) (α:=(List Int)) (λD U=>[(1,I a1),(3,Pt b1),(8,.eq (.func (.func 69) #[(.int .u8 a2)] #[])),(9,I y4.2),(11,.eq e),(14,.eq D),(22,.rep (.slice (.slice Tl)) a0.2.2.2.2.1),(23,I (a0.2.2.2.2.1.length:Int)),(24,I y4.2),(29,.rep (.slice Tl) x8),(30,I (x8.length:Int)),(31,I c.2),(35,.rep Tl u),(36,I (u.length:Int)),(37,I j.2)]) (λD U=>[.obj b1 28 (.agg (.pair (I a0.1) (.pair (I a0.2.1) (.pair (I a0.2.2.1) (.pair (I a0.2.2.2.1) (.pair (.eq z5) (Rs aR a0.2.2.2.2.2))))))),.sl z5 29 (.slice Tl) y4.1,.sl e 22 Tl c.1,.sl D 3 Ti U]) h (λK h=>?_) (λD U h=>?_))
         .refine ai (sr ?_);obtain⟨J,Vv,h⟩:=aa h;refine jb (aK (t:=Ti) rfl ig cF Vv) ?_;refine ja (ao (t:=Ti) rfl cF rfl) ?_;refine aq (nt ?_);refine aC (Z:=Unit) (α:=Bool) (λmc gw=>[(1,I a1),(3,Pt b1),(8,.eq (.func (.func 69) #[(.int .u8 a2)] #[])),(9,I y4.2),(11,.eq e),(14,.eq l),(16,I J),(22,.rep (.slice (.slice Tl)) a0.2.2.2.2.1),(23,I (a0.2.2.2.2.1.length:Int)),(24,I y4.2),(29,.rep (.slice Tl) x8),(30,I (x8.length:Int)),(31,I c.2),(35,.rep Tl u),(36,I (u.length:Int)),(37,I j.2),(49,.eq (.bool gw))]) (λmc gw=>[.obj b1 28 (.agg (.pair (I a0.1) (.pair (I a0.2.1) (.pair (I a0.2.2.1) (.pair (I a0.2.2.2.1) (.pair (.eq z5) (Rs aR a0.2.2.2.2.2))))))),.sl z5 29 (.slice Tl) y4.1,.sl e 22 Tl c.1,.sl l 3 Ti j.1]) h (λK h=>?_) (λmc gw h=>?_)
          .refine ab ?_;iterate 2 refine mq ?_
           refine jb (bo rfl) ?_;refine mq ?_;refine cj (s:=44) rfl (λhb=>?_) (λhb=>?_)
           .replace h:=eQ (sG hb) h;iterate 4 refine gn ?_
            refine pt (nl ?_);exact jz ((),true) h [0,1,2,3]
           .replace h:=cQ (sH hb) h;refine gm ?_;refine gm ?_;obtain⟨qt,VB,h⟩:=aa h;refine gb (uj (fs:=[(.int .u8 a2)]) (cs:=[]) (ags:=[I J]) [.tmp 46] rfl rfl I2 rfl (g9 k a2 J qt VB)) ?_;refine ga (gZ rfl) ?_;refine pf (nl ?_);exact jz ((), !qt) h [0,1,2,3]
          .refine cv h (λh=>?_) (λh=>?_)
           .refine ab ?_;iterate 2 refine mq ?_
            refine ja (bb (t:=Ti) [(.tmp 51,_)] [J] rfl rfl dO (.cons rfl .int .nil) rfl rfl) ?_;obtain⟨VK,Vz,h⟩:=aa h;refine fr 3 ?_;refine dK rfl rfl rfl (bV rfl rfl dO (am Vz)) ⟨rfl,rfl,trivial⟩ λVH=>?_;refine aq (aE (bn ?_));exact jz (VH,j.1++[J]) h [1,2,3,0]
           .refine bi (bn ?_);exact jz (l,j.1) h [0,1,2,3]
         .refine ab ?_;obtain⟨VE,Vu,h⟩:=aa h;refine jb (bj rfl Vu) ?_;refine mq (nl ?_);exact jz (D,(U,VE)) h [0,1,2,3]
        .refine xa ?_;exact jz (l,j.1) h [0,1,2,3]
       .refine ab ?_;iterate 2 refine mq ?_
        refine fr 3 ?_;refine eg (ic [14,56] ⟨rfl,rfl,trivial⟩) ?_;refine ja (bb (t:=Tl) [(.tmp 56,_)] [M] rfl rfl l9 (.cons rfl .rep .nil) rfl rfl) ?_;obtain⟨VJ,Vy,h⟩:=aa h;refine fr 2 ?_;refine dK rfl rfl rfl (bV rfl rfl l9 (am Vy)) ⟨rfl,rfl,trivial⟩ λVG=>?_;refine aq (aE (bn ?_));exact jz (VG,c.1++[M]) h [1,2,0]
      .refine ab ?_;obtain⟨VD,Vt,h⟩:=aa h;refine jb (bj rfl Vt) ?_;refine mq (nl ?_);exact jz (E,(X,VD)) h [0,1,2]
     .refine xa ?_;exact jz (e,c.1) h [0,1,2]
    .refine ab (fl dh ?_);refine lo ix ?_;refine mq ?_;refine fr 2 ?_;refine eg (ic [11,62] ⟨rfl,rfl,trivial⟩) ?_;refine ja (bb (t:=(.slice Tl)) [(.tmp 62,_)] [x9] rfl rfl xQ (.cons rfl .rep .nil) rfl rfl) ?_;obtain⟨u32,Vx,h⟩:=aa h;refine fr 1 ?_;refine dK rfl rfl rfl (bV rfl rfl xQ (am Vx)) ⟨rfl,rfl,trivial⟩ λVF=>?_;refine fl dh ?_;refine pz λo34=>?_;refine fr 1 ?_;refine aN rfl rfl (aI rfl ix o34 rfl rfl) ⟨rfl,rfl,trivial⟩ ?_;refine aE (bn ?_);exact jz (VF,y4.1++[x9]) h [0,1]
   .refine ab ?_;obtain⟨VC,zz,h⟩:=aa h;refine jb (bj rfl zz) ?_;refine mq (nl ?_);exact jz (z7,(x6,VC)) h [0,1]
  .refine xa ?_;exact jz (z5,y4.1) h [0,1]
 .
  refine sr (fr 1 ?_);refine eg (lW (off:=4) [] trivial rfl rfl) ?_;refine lo fE ?_;obtain⟨mw,VA,h⟩:=aa h;have y:=ox k (a0.1,a0.2.1,a0.2.2.1,a0.2.2.2.1,x2,a0.2.2.2.2.2) mw VA;rcases hr:mw with _ |VL
  .rw [hr] at h y;replace h:=wB h;refine aM (Δ:=[]) (F:=_) (λ_ _ _=>ah rfl _) rfl rfl (bY (N:=[(.tmp 67,.agg (.pair (I a0.1) (.pair (I a0.2.1) (.pair (I a0.2.2.1) (.pair (I a0.2.2.2.1) (.pair (.rep (.slice (.slice Tl)) x2) (Rs aR a0.2.2.2.2.2)))))))]) (ax [.tmp 67] rfl rfl L2 rfl y) λ_ _ _ hn=>⟨(aJ (t:=an) (x:=(a0.1,a0.2.1,a0.2.2.1,a0.2.2.2.1,x2,a0.2.2.2.2.2)) (.agg (.pair .int (.pair .int (.pair .int (.pair .int (.pair .rep .rep)))))) trivial rfl hn.1),trivial⟩) ⟨rfl,trivial⟩ λ_=>?_;refine aq (nt (aA ?_));cases h;exact aP (0,0) [.eq (.pointer none)] 0 ⟨rfl,trivial⟩ rfl
  .rw [hr] at h y;replace h:=wA h;refine aM (Δ:=[]) (F:=_) (λ_ _ _=>ah rfl _) rfl rfl (bY (N:=[(.tmp 67,.agg (.pair (I a0.1) (.pair (I a0.2.1) (.pair (I a0.2.2.1) (.pair (I a0.2.2.2.1) (.pair (.rep (.slice (.slice Tl)) x2) (Rs aR a0.2.2.2.2.2)))))))]) (ax [.tmp 67] rfl rfl L2 rfl y) λ_ _ _ hn=>⟨(aJ (t:=an) (x:=(a0.1,a0.2.1,a0.2.2.1,a0.2.2.2.1,x2,a0.2.2.2.2.2)) (.agg (.pair .int (.pair .int (.pair .int (.pair .int (.pair .rep .rep)))))) trivial rfl hn.1),trivial⟩) ⟨rfl,trivial⟩ λY=>?_;refine aq (nt (aA ?_));cases h;exact aP (Y.1,Y.2) [.eq (.pointer (some ⟨Y.1,0,none⟩))] 2 ⟨rfl,trivial⟩ rfl
def bW(k:Nat)(a0:ae)(r1:(List (List Int)))(y5:Int):Nat->Int->Option (Except Bool Unit)
 |0,_=>none
 |n+1,c=>
  if c < a0.1 then((((aF r1 y5).bind λs=>
  (aF s c).bind λr=>
  if r < 0 then((ck (y5+1)).bind λl=>
  (aF r1 l).bind λj=>
  (aF j c).bind λh=>
  some (decide (h=0))) else(some false)):Option (Bool)).bind λu=>
  if u=true then(some (.error true)) else((ck (c+1)).bind λe=>
  bW k a0 r1 y5 n e)) else(some (.ok ()))
def cU(k:Nat)(a0:ae)(r1:(List (List Int))):Nat->Int->Option (Except Bool Unit)
 |0,_=>none
 |n+1,y5=>
  if y5 < (a0.2.2.2.2.1.length:Int) then(bE (α:=Unit) ((ck (y5+1)).bind λx9=>
  (aF r1 x9).bind λh=>
  (aF r1 y5).bind λc=>
  (cL (uM h/\uM c)).bind λ_=>
  if h=c then(some (.ok ())) else(bW k a0 r1 y5 k 0)) (λe=>some (.error e)) λ_=>
  (ck (y5+1)).bind λj=>
  cU k a0 r1 n j) else(some (.ok ()))
def fu(k:Nat)(a0:ae)(a1:Int)(a2:Int):Option Bool:=
 (me k a0 a1).bind λr1=>
 bE (α:=Unit) (cU k a0 r1 k a2) (some) λ_=>
 some false
theorem pe(k:Nat)(a0:ae)(c z_a0:Nat)(a1:Int)(a2:Int)(r:Bool)(h:fu k a0 a1 a2=some r):
 ce (dU Tryz.prog) 39 [Pt c,.eq (.int .u8 a1),I a2] [.obj c 124 (aU a0 z_a0),.inv z_a0 (cg k a0)] (λ_:Unit=>(bN [.eq (.bool r)],[.obj c 124 (aU a0 z_a0),.inv z_a0 (cg k a0)])):=by
 unfold fu at h
 replace h:=bg h
 refine ce.of 56 Tryz.func39 rfl Tryz.ntmps39 rfl λS w0=>?_
 refine sr ?_
 refine cq ?_
 refine nt ?_
 refine sr ?_
 iterate 2 refine mq ?_
 obtain⟨r1,Vt,h⟩:=aa h
 have Vu:=pU k a0 c z_a0 a1 r1 Vt
 refine fr 1 ?_
 refine fr 1 ?_
 refine aM (Δ:=[_,_]) (F:=_) (λ_ _ _=>ah rfl _) rfl rfl (aW [.tmp 10,.tmp 11] rfl rfl FN rfl Vu) ⟨rfl,rfl,trivial⟩ λ_=>?_
 refine aX rfl rfl rfl (be rfl zb A1) trivial λb2=>?_
 refine aN rfl rfl (aI rfl zy rfl rfl rfl) ⟨rfl,rfl,trivial⟩ ?_
 refine eg (jM (t:=(.arr 7 Tr)) (x:=r1) [7] .rep ⟨rfl,trivial⟩) ?_
 refine nt ?_
 refine dk (Z:=Unit) (α:=Unit) (λz4 x3=>[]) (λz4 x3=>[.obj c 124 (aU a0 z_a0),.inv z_a0 (cg k a0)]) (λe=>e=r) h (λe h=>Option.some.inj h) (λK hR h=>?_) (λz4 x3 h=>?_)
 .
  refine sr (mq ?_);refine aq (nt (ai ?_));refine aD (λz6 y5=>[(0,Pt c),(7,.at (.arr 7 Tr) r1),(8,I y5)]) (λz6 y5=>[.obj c 124 (aU a0 z_a0),.inv z_a0 (cg k a0)]) (cU k a0 r1) k () a2 (λ_=>rfl) h (SE.fin [0,1] ⟨rfl,rfl,rfl,trivial⟩ rfl) (λn z6 y5 h=>?_);unfold cU at h;refine ak (sr ?_);iterate 2 refine mq ?_
  refine ja (cP rfl) ?_;refine fl io ?_;refine fl dh ?_;refine lo ix ?_;refine ol vG ?_;refine jb (bo rfl) ?_;refine nt (ci h (λh=>?_) (λh=>?_))
  .refine sk (dk (Z:=Unit) (α:=Unit) (λz8 x7=>[(0,Pt c),(7,.at (.arr 7 Tr) r1),(8,I y5)]) (λz8 x7=>[.obj c 124 (aU a0 z_a0),.inv z_a0 (cg k a0)]) (λe=>e=r) h (λe h=>hR e h) (λK hR h=>?_) (λz8 x7 h=>?_))
   .refine ai (ak (ak (cN ?_)));refine dm ?_;obtain⟨x9,zz,h⟩:=aa h;refine db (bj rfl zz) ?_;obtain⟨VA,gw,h⟩:=aa h;refine db (cz (t:=Tr) rfl wE fG gw) ?_;refine da (ao (t:=Tr) rfl fG rfl) ?_;refine dm ?_;obtain⟨Vz,Y,h⟩:=aa h;refine db (cz (t:=Tr) rfl wE fG Y) ?_;refine da (ao (t:=Tr) rfl fG rfl) ?_;refine df dS ?_;obtain⟨VB,l,h⟩:=aa h;refine jb (HY rfl (am l).1 (am l).2) ?_;refine nt (ci h (λh=>?_) (λh=>?_))
    .refine fK (bM (c6 (au ?_)));exact jz ((),()) h [0,1]
    .refine sk (sr (mq ?_));refine ja (cP rfl) ?_;refine fl io ?_;refine fl gG ?_;refine lo cF ?_;refine fH rfl ?_;refine nt (ai (aD (λD j=>[(0,Pt c),(7,.at (.arr 7 Tr) r1),(8,I y5),(36,I a0.1),(37,I j)]) (λD j=>[.obj c 124 (aU a0 z_a0),.inv z_a0 (cg k a0)]) (bW k a0 r1 y5) k () 0 (λ_=>rfl) h (SE.fin [0,1] ⟨rfl,rfl,rfl,rfl,rfl,trivial⟩ rfl) (λn D j h=>?_)));unfold bW at h;refine sr (jb (bo rfl) ?_);refine nt (ak (ci h (λh=>?_) (λh=>?_)))
     .refine sk (ak (ai (sr (mq ?_))));refine aq (nt ?_);refine aC (Z:=Unit) (α:=Bool) (λy u=>[(0,Pt c),(7,.at (.arr 7 Tr) r1),(8,I y5),(36,I a0.1),(37,I j),(54,.eq (.bool u))]) (λy u=>[.obj c 124 (aU a0 z_a0),.inv z_a0 (cg k a0)]) h (λK h=>?_) (λy u h=>?_)
      .refine ab ?_;iterate 2 refine mq ?_
       obtain⟨Vy,X,h⟩:=aa h;refine jb (cz (t:=Tr) rfl wE fG X) ?_;obtain⟨Vx,U,h⟩:=aa h;refine jb (cz (t:=Ti) rfl ru cF U) ?_;refine ja (ao (t:=Ti) rfl cF rfl) ?_;refine jb (bo rfl) ?_;refine mq ?_;refine cj (s:=46) rfl (λhb=>?_) (λhb=>?_)
       .replace h:=eQ (sG hb) h;refine gm ?_;obtain⟨Vw,Q,h⟩:=aa h;refine gb (bj rfl Q) ?_;refine gm ?_;obtain⟨Vv,O,h⟩:=aa h;refine gb (cz (t:=Tr) rfl wE fG O) ?_;obtain⟨qt,M,h⟩:=aa h;refine gb (cz (t:=Ti) rfl ru cF M) ?_;refine ga (ao (t:=Ti) rfl cF rfl) ?_;refine gb (jm rfl) ?_;refine pt (nl ?_);exact jz ((),decide (qt=0)) h [0,1]
       .replace h:=cQ (sH hb) h;iterate 7 refine gn ?_
        refine pf (nl ?_);exact jz ((),false) h [0,1]
      .refine cv h (λh=>?_) (λh=>?_)
       .refine sr (cq (nt (aA (br (bB (br (bB (bv ?_))))))));obtain rfl:=hR _ h;exact aP () [_] 2 ⟨rfl,trivial⟩ rfl
       .refine bi (aO (tn (ab ?_)));obtain⟨mw,J,h⟩:=aa h;refine jb (bj rfl J) ?_;refine mq (nl ?_);exact jz ((),mw) h [0,1]
     .refine fK (bM (bM (c6 (bn ?_))));exact jz ((),()) h [0,1]
   .refine ab (mq ?_);obtain⟨mc,E,h⟩:=aa h;refine jb (bj rfl E) ?_;refine aq (nl ?_);exact jz ((),mc) h [0,1]
  .refine xa ?_;exact jz ((),()) h [0,1]
 .
  refine sr (cq (nt (aA ?_)));cases h;exact aP () [_] 2 ⟨rfl,trivial⟩ rfl
def kT(k:Nat)(a0:Int)(a1:ae)(a2:Int):Option Bool:=
 (fu k a1 a0 a2).bind λr1=>
 some r1
theorem ud(k:Nat)(a0:Int)(a1:ae)(c z_a1 j:Nat)(a2:Int)(e:Nat)(r:Bool)(h:kT k a0 a1 a2=some r):
 ce (dU Tryz.prog) 38 [.eq (.int .u8 a0),Pt j,Pt e] [.obj c 124 (aU a1 z_a1),.inv z_a1 (cg k a1),.obj j 65 (Pt c),.obj e 3 (I a2)] (λ_:Unit=>(bN [.eq (.bool r)],[.obj c 124 (aU a1 z_a1),.inv z_a1 (cg k a1),.obj j 65 (Pt c),.obj e 3 (I a2)])):=by
 unfold kT at h
 replace h:=bg h
 refine ce.of 9 Tryz.func38 rfl Tryz.ntmps38 rfl λS w0=>?_
 refine sr ?_
 refine cq ?_
 refine nt ?_
 refine sr ?_
 refine fr 2 ?_
 refine lo Kz ?_
 refine mq ?_
 refine fr 3 ?_
 refine lo cF ?_
 obtain⟨r1,l,h⟩:=aa h
 have n:=pe k a1 c z_a1 a0 a2 r1 l
 refine fr 3 ?_
 refine fr 3 ?_
 refine aM (Δ:=[_,_]) (F:=_) (λ_ _ _=>ah rfl _) rfl rfl (aW [.tmp 5,.tmp 6,.tmp 7] rfl rfl Uz rfl n) ⟨rfl,rfl,rfl,trivial⟩ λ_=>?_
 refine aq ?_
 refine nt ?_
 refine aA ?_
 refine bK (SE.fin (Γ':=[(4,_)]) [0,1,3,2] ⟨rfl,trivial⟩ rfl) ?_
 cases h
 exact aP () [_] 4 ⟨rfl,trivial⟩ rfl
def cD(k:Nat)(a0:(List Int))(a1_0:ae)(a1_1:Int):Nat->Int->Option (Except Int Unit)
 |0,_=>none
 |n+1,y3=>
  if y3 < (a0.length:Int) then((aF a0 y3).bind λx5=>
  (kT k x5 a1_0 a1_1).bind λr6=>
  if r6=true then(some (.error y3)) else((ck (y3+1)).bind λx7=>
  cD k a0 a1_0 a1_1 n x7)) else(some (.ok ()))
def gJ(k:Nat)(a0:(List Int))(a1_0:ae)(a1_1:Int):Option Int:=
 bE (α:=Unit) (cD k a0 a1_0 a1_1 k 0) (some) λ_=>
 some (-1:Int)
theorem oU(k:Nat)(a0:(List Int))(a1_0:ae)(b_a1_0 z_a1_0 c_a1_0:Nat)(a1_1:Int)(c_a1_1:Nat)(r:Int)(h:gJ k a0 a1_0 a1_1=some r):
 ce (dU Tryz.prog) 72 [.rep (.slice (.int .u8)) a0,.eq (.func (.func 38) #[] #[(Pv c_a1_0),(Pv c_a1_1)])] [.obj b_a1_0 124 (aU a1_0 z_a1_0),.inv z_a1_0 (cg k a1_0),.obj c_a1_0 65 (Pt b_a1_0),.obj c_a1_1 3 (I a1_1)] (λ_:Unit=>(bN [I r],[.obj b_a1_0 124 (aU a1_0 z_a1_0),.inv z_a1_0 (cg k a1_0),.obj c_a1_0 65 (Pt b_a1_0),.obj c_a1_1 3 (I a1_1)])):=by
 unfold gJ at h
 replace h:=bg h
 refine ce.of 19 Tryz.func72 rfl Tryz.ntmps72 rfl λS w0=>?_
 refine sr ?_
 refine cq ?_
 refine nt ?_
 refine dk (Z:=Unit) (α:=Unit) (λz2 x1=>[]) (λz2 x1=>[.obj b_a1_0 124 (aU a1_0 z_a1_0),.inv z_a1_0 (cg k a1_0),.obj c_a1_0 65 (Pt b_a1_0),.obj c_a1_1 3 (I a1_1)]) (λe=>e=r) h (λe h=>Option.some.inj h) (λK hR h=>?_) (λz2 x1 h=>?_)
 .
  refine sr (mq ?_);refine ol Bo ?_;refine fH rfl ?_;refine nt (ai (aD (λz4 y3=>[(0,.rep (.slice (.int .u8)) a0),(1,.eq (.func (.func 38) #[] #[(Pv c_a1_0),(Pv c_a1_1)])),(7,I (a0.length:Int)),(8,I y3)]) (λz4 y3=>[.obj c_a1_0 65 (Pt b_a1_0),.obj b_a1_0 124 (aU a1_0 z_a1_0),.obj c_a1_1 3 (I a1_1),.inv z_a1_0 (cg k a1_0)]) (cD k a0 a1_0 a1_1) k () 0 (λ_=>rfl) h (SE.fin [2,0,3,1] ⟨rfl,rfl,rfl,rfl,trivial⟩ rfl) (λn z4 y3 h=>?_)));unfold cD at h;refine sr (jb (bo rfl) ?_);refine nt (ak (ci h (λh=>?_) (λh=>?_)))
  .refine sk (ak (ai (sr (mq ?_))));refine aq (nt (sr ?_));iterate 3 refine mq ?_
   obtain⟨x5,j,h⟩:=aa h;refine jb (aK (t:=(.int .u8)) rfl Bo qE j) ?_;refine ja (ao (t:=(.int .u8)) rfl qE rfl) ?_;obtain⟨r6,l,h⟩:=aa h;refine fr 2 ?_;refine fr 1 ?_;refine fr 3 ?_;refine fr 3 ?_;refine aM (Δ:=[_,_,_,_]) (F:=_) (λ_ _ _=>ah rfl _) rfl rfl (rO (fs:=[]) (cs:=[(Pv c_a1_0),(Pv c_a1_1)]) (ags:=[.eq (.int .u8 x5)]) [.tmp 15] rfl rfl UA rfl (ud k x5 a1_0 b_a1_0 z_a1_0 c_a1_0 a1_1 c_a1_1 r6 l)) ⟨rfl,rfl,trivial⟩ λ_=>?_;refine nt (cv h (λh=>?_) (λh=>?_))
   .refine sr (mq ?_);refine aq (nt (aA (br (bB (bv ?_)))));obtain rfl:=hR _ h;exact aP () [_] 4 ⟨rfl,trivial⟩ rfl
   .refine bi (aO (tn (ab ?_)));obtain⟨x7,c,h⟩:=aa h;refine jb (bj rfl c) ?_;refine mq (nl ?_);exact jz ((),x7) h [2,0,3,1]
  .refine xa ?_;exact jz ((),()) h [1,3,0,2]
 .
  refine sr (cq (nt (aA ?_)));cases h;exact aP () [_] 4 ⟨rfl,trivial⟩ rfl
def cS(k:Nat)(a0:(List Int))(a1_0:ae)(a1_1:Int):Option Bool:=
 (gJ k a0 a1_0 a1_1).bind λr1=>
 some (decide (0≤r1))
theorem nj(k:Nat)(a0:(List Int))(a1_0:ae)(b_a1_0 z_a1_0 c_a1_0:Nat)(a1_1:Int)(c_a1_1:Nat)(r:Bool)(h:cS k a0 a1_0 a1_1=some r):
 ce (dU Tryz.prog) 40 [.rep (.slice (.int .u8)) a0,.eq (.func (.func 38) #[] #[(Pv c_a1_0),(Pv c_a1_1)])] [.obj b_a1_0 124 (aU a1_0 z_a1_0),.inv z_a1_0 (cg k a1_0),.obj c_a1_0 65 (Pt b_a1_0),.obj c_a1_1 3 (I a1_1)] (λ_:Unit=>(bN [.eq (.bool r)],[.obj b_a1_0 124 (aU a1_0 z_a1_0),.inv z_a1_0 (cg k a1_0),.obj c_a1_0 65 (Pt b_a1_0),.obj c_a1_1 3 (I a1_1)])):=by
 unfold cS at h
 replace h:=bg h
 refine ce.of 9 Tryz.func40 rfl Tryz.ntmps40 rfl λS w0=>?_
 refine sr ?_
 refine cq ?_
 refine nt ?_
 refine sr ?_
 iterate 2 refine mq ?_
 obtain⟨r1,c,h⟩:=aa h
 have e:=oU k a0 a1_0 b_a1_0 z_a1_0 c_a1_0 a1_1 c_a1_1 r1 c
 refine fr 3 ?_
 refine fr 3 ?_
 refine fr 3 ?_
 refine fr 3 ?_
 refine aM (Δ:=[_,_,_,_]) (F:=_) (λ_ _ _=>ah rfl _) rfl rfl (aW [.tmp 5,.tmp 6] rfl rfl Uk rfl e) ⟨rfl,rfl,trivial⟩ λ_=>?_
 refine jb (jX rfl) ?_
 refine aq ?_
 refine nt ?_
 refine aA ?_
 cases h
 exact aP () [_] 4 ⟨rfl,trivial⟩ rfl
def jH(k:Nat)(a0:ae)(a1:Int):Option ((List Int)×Int):=
 (jG k a0 ([]:(List Int)) [a1] ([]:(List Int))).bind λr3=>
 gk r3.1 (if¬(r3.2.2=0) then(some (([]:(List Int)),r3.2.2)) else(none)) (λq4=>if¬(r3.2.2=0) then(some (([]:(List Int)),r3.2.2)) else((i8 k (oO (λ(c:(List Int)) (e:Int)=>
  (iT k a0 a1 e).bind λr=>
  gk r (none) (λs=>(cS k r3.2.1 s a1).bind λn=>
  if¬(n=true) then((cL (bD (length c+length [e]))).bind λ_=>
  some (c++[e],true)) else(some (c,true))))) a0.1 (([]:(List Int)),false)).bind λh=>
 if h.2=true then(none) else((nV k h.1).bind λl=>
 (fp k l).bind λj=>
 some (j,0))))
theorem qx(k:Nat)(a0:ae)(a1:Int)(r:(List Int)×Int)(h:jH k a0 a1=some r):
 ce (dU Tryz.prog) 10 [.rep an a0,I a1] [] (λ_:Unit=>(bN [.rep Tl r.1,I r.2],[])):=by
 unfold jH at h
 replace h:=bg h
 refine vQ 44 Tryz.func10 rfl Tryz.ntmps10 rfl λS w0=>?_
 refine sr ?_
 refine bx λb1=>?_
 refine bx λb2=>?_
 refine cq ?_
 refine cq ?_
 refine nt ?_
 refine sr ?_
 refine fr 1 ?_
 refine lo fE ?_
 refine fr 1 ?_
 refine lo cF ?_
 refine ja (bb (t:=Ti) [(.tmp 15,_)] [a1] rfl rfl dO (.cons rfl .int .nil) rfl rfl) ?_
 obtain⟨r3,Vv,h⟩:=aa h
 have y:=nT k a0 ([]:(List Int)) [a1] ([]:(List Int)) r3 Vv
 rcases hr:r3.1 with _ |q4
 .
  rw [hr] at h y;replace h:=wB h;refine aM (Δ:=[]) (F:=_) (λ_ _ _=>ah rfl _) rfl rfl (bY (N:=[(.tmp 14,.rep an a0),(.const (.slice none 0 0),.eq (.slice none 0 0)),(.tmp 16,.rep Tl [a1]),(.const (.slice none 0 0),.eq (.slice none 0 0))]) (aW [.tmp 14,.const (.slice none 0 0),.tmp 16,.const (.slice none 0 0)] rfl rfl FP rfl y) λ_ _ _ hn=>⟨hn.1,(aJ (t:=Tl) (x:=([]:(List Int))) .nil rfl rfl hn.2.1),hn.2.2.1,(aJ (t:=Tl) (x:=([]:(List Int))) .nil rfl rfl hn.2.2.2.1),trivial⟩) ⟨rfl,rfl,rfl,rfl,trivial⟩ λ_=>?_;refine mq ?_;refine xr ?_;refine xr ?_;refine xr ?_;refine aX rfl rfl rfl (be rfl J3 MR) trivial λb5=>?_;refine aq ?_;refine aN rfl rfl (aI rfl xP rfl rfl rfl) ⟨rfl,rfl,trivial⟩ ?_;refine aq (nt (ak (sr ?_)));refine mq ?_;refine jb (fL rfl) ?_;refine nt (cn h (λh=>?_) (λh=>?_))
  .refine sr (mq ?_);refine cq ?_;refine aq (nt (rx ?_));refine bK (eV (t:=Tl) (x:=([]:(List Int))) 4 rfl .nil rfl rfl) ?_;refine A9 ?_;cases h;exact rb
  .cases h
 .
  rw [hr] at h y;replace h:=wA h;refine aM (Δ:=[]) (F:=_) (λ_ _ _=>ah rfl _) rfl rfl (bY (N:=[(.tmp 14,.rep an a0),(.const (.slice none 0 0),.eq (.slice none 0 0)),(.tmp 16,.rep Tl [a1]),(.const (.slice none 0 0),.eq (.slice none 0 0))]) (aW [.tmp 14,.const (.slice none 0 0),.tmp 16,.const (.slice none 0 0)] rfl rfl FP rfl y) λ_ _ _ hn=>⟨hn.1,(aJ (t:=Tl) (x:=([]:(List Int))) .nil rfl rfl hn.2.1),hn.2.2.1,(aJ (t:=Tl) (x:=([]:(List Int))) .nil rfl rfl hn.2.2.2.1),trivial⟩) ⟨rfl,rfl,rfl,rfl,trivial⟩ λz6=>?_;refine mq ?_;refine xr ?_;refine xr ?_;refine xr ?_;refine aX rfl rfl rfl (be rfl J3 MR) trivial λb7=>?_;refine aq ?_;refine aN rfl rfl (aI rfl xP rfl rfl rfl) ⟨rfl,rfl,trivial⟩ ?_;refine aq (nt (ak (sr ?_)));refine mq ?_;refine jb (fL rfl) ?_;refine nt (cn h (λh=>?_) (λh=>?_))
  .refine sr (mq ?_);refine cq ?_;refine aq (nt (rx ?_));refine bK (eV (t:=Tl) (x:=([]:(List Int))) 4 rfl .nil rfl rfl) ?_;refine A9 ?_;cases h;exact rb
  .refine sk (sr (aX rfl rfl rfl (be rfl J3 MR) trivial λb8=>?_));refine nt (ak (sr (fl gG ?_)));refine fr 5 ?_;refine lo cF ?_;refine aX rfl rfl rfl (ax [.tmp 25] rfl rfl RG rfl (rV a0.1)) ⟨rfl,trivial⟩ λb9=>?_;refine nt (ai (f5 (SE.nil 66 (.int .u8)) ?_));refine dy 7 rfl ?_;refine dy 7 rfl ?_;refine dy 7 rfl ?_;refine dy 7 rfl ?_;refine dy 4 rfl ?_;refine dy 7 rfl ?_;refine dy 7 rfl ?_;refine dy 7 rfl ?_;obtain⟨u,qt,h⟩:=aa h;refine sD (Δ:=[.obj b9 3 (I a0.1),.obj b1 28 (.rep an a0),.obj b8 69 (.eq (.slice none 0 0)),.sl (.slice none 0 0) 66 (.int .u8) ([]:(List Int)),.obj b7 69 (.rep (.slice (.int .u8)) r3.2.1),.obj z6.1 124 (aU q4 z6.2),.inv z6.2 (cg k q4),.obj b2 3 (I a1)]) (F:=[]) (X:=Value) (J:=λ_=>Ql u.2) (E:=λc=>[.obj b9 3 (I a0.1),.obj b1 28 (.rep an a0),.obj b8 69 (.eq c),.sl c 66 (.int .u8) u.1,.obj b7 69 (.rep (.slice (.int .u8)) r3.2.1),.obj z6.1 124 (aU q4 z6.2),.inv z6.2 (cg k q4),.obj b2 3 (I a1)]) (r0:=λ_=>.tup .any) rfl rfl RB (λrec hp ha hb hs hpe hN hv l=>?_) (λdl c=>uC (λhj=>?_) (λhj=>?_))
   .rcases rec with⟨st0,pe0,fn0,tm0,ps0,as0,bd0,df0⟩;dsimp only at hp ha hb hs hpe hN hv;subst hp hs hpe;have vN:A4 tm0 [(2,Pt b1),(3,Pt b2),(7,Pt b7),(9,Pt b8)]:=⟨congrArg A.eq (hv 2 _ rfl).symm,congrArg A.eq (hv 3 _ rfl).symm,congrArg A.eq (hv 7 _ rfl).symm,congrArg A.eq (hv 9 _ rfl).symm,trivial⟩;refine ce.pick (M:=(dU Tryz.prog)) [1,0,2,3,4,5,6,7,8] [1,0,2,3,4,5,6,7,8] (pi (λ(c:Value) (q:(List Int)×Bool)=>[.raw l (.loop (kD ⟨.ready,none,fn0,tm0, #[27],as0,bd0,df0⟩ (Ql q.2))),.obj b1 28 (.rep an a0),.obj b8 69 (.eq c),.sl c 66 (.int .u8) q.1,.obj b7 69 (.rep (.slice (.int .u8)) r3.2.1),.obj z6.1 124 (aU q4 z6.2),.inv z6.2 (cg k q4),.obj b2 3 (I a1)]) l (oO (λ(n:(List Int)) (j:Int)=>
    (iT k a0 a1 j).bind λs=>
    gk s (none) (λO=>(cS k r3.2.1 O a1).bind λD=>
    if¬(D=true) then((cL (bD (length n+length [j]))).bind λ_=>
    some (n++[j],true)) else(some (n,true))))) k a0.1 b9 (λc q p r' h=>?_) (.slice none 0 0) (([]:(List Int)),false) u qt) rfl (λ_=>rfl) (λ_=>rfl)
    obtain⟨rq,hq,h2,rfl⟩:=uD h;obtain⟨n,b5⟩:=q;obtain rfl:b5=false:=hq;replace h:=bg h2;obtain⟨j,hpv⟩:∃x,x=p:=⟨_,rfl⟩;subst hpv;refine YT.pick (R':=(λc:Value=>(.eq (.bool rq.2),[.raw l (.loop (kD ⟨.ready,none,fn0,tm0, #[27],as0,bd0,df0⟩ (Ql (!rq.2)))),.obj b1 28 (.rep an a0),.obj b8 69 (.eq c),.sl c 66 (.int .u8) rq.1,.obj b7 69 (.rep (.slice (.int .u8)) r3.2.1),.obj z6.1 124 (aU q4 z6.2),.inv z6.2 (cg k q4),.obj b2 3 (I a1)]))) [0,1,2,3,4,5,6,7] [0,1,2,3,4,5,6,7] (Jk ha hb (N:=44) (Γ:=[(2,Pt b1),(3,Pt b2),(7,Pt b7),(9,Pt b8)]) rfl hN (by decide) vN (λS w=>?_)) rfl (λ_=>rfl) (λ_=>rfl);refine ab (aq (nl ?_));refine Bc rfl rfl ?_;refine ai (sr (fr 1 ?_));refine lo fE ?_;refine fr 7 ?_;refine lo cF ?_;refine mq ?_;obtain⟨s,mw,h⟩:=aa h;have e:=ww k a0 a1 j s mw;rcases hr:s with _ |O
    .rw [hr] at h e;replace h:=wB h;refine aM (Δ:=[]) (F:=_) (λ_ _ _=>ah rfl _) rfl rfl (ax [.tmp 28,.tmp 29,.tmp 30] rfl rfl RF rfl e) ⟨rfl,rfl,rfl,trivial⟩ λ_=>?_;cases h
    .rw [hr] at h e;replace h:=wA h;refine aM (Δ:=[]) (F:=_) (λ_ _ _=>ah rfl _) rfl rfl (ax [.tmp 28,.tmp 29,.tmp 30] rfl rfl RF rfl e) ⟨rfl,rfl,rfl,trivial⟩ λQ=>?_;refine aX rfl rfl rfl (be rfl Tj UL) trivial λzz=>?_;refine aN rfl rfl (aI rfl Kz rfl rfl rfl) ⟨rfl,rfl,trivial⟩ ?_;refine nt (sr (jb (sU [] [.tmp 11,.tmp 3] [] [(Pv zz),(Pv b2)] rfl rfl rfl) ?_));refine aq (nt (sr ?_));refine fr 8 ?_;refine lo xP ?_;refine mq ?_;obtain⟨D,mc,h⟩:=aa h;refine fr 4 ?_;refine fr 2 ?_;refine fr 4 ?_;refine fr 4 ?_;refine aM (Δ:=[_,_,_,_]) (F:=_) (λ_ _ _=>ah rfl _) rfl rfl (aW [.tmp 33,.tmp 34] rfl rfl Uy rfl (nj k r3.2.1 O Q.1 Q.2 zz a1 b2 D mc)) ⟨rfl,rfl,trivial⟩ λ_=>?_;refine ja (gZ rfl) ?_;refine nt (cw h (λh=>?_) (λh=>?_))
     .refine ab (fr 7 ?_);refine lo xP ?_;refine mq ?_;refine ja (bb (t:=(.int .u8)) [(.tmp 38,_)] [j] rfl rfl KN (.cons rfl .int .nil) rfl rfl) ?_;obtain⟨Vw,Y,h⟩:=aa h;refine fr 8 ?_;refine dK rfl rfl rfl (bV rfl rfl KN (am Y)) ⟨rfl,rfl,trivial⟩ λVt=>?_;refine pz λo22=>?_;refine fr 1 ?_;refine aN rfl rfl (aI rfl xP o22 rfl rfl) ⟨rfl,rfl,trivial⟩ ?_;refine aE (aO (bG 5 rfl ?_));refine bG 10 rfl ?_;refine bG 10 rfl ?_;refine bG 8 rfl ?_;refine bG 5 rfl ?_;refine bG 5 rfl ?_;refine bG 9 rfl ?_;refine bG 10 rfl ?_;cases h;exact qh Vt 7 rfl
     .refine bi (aO (bG 3 rfl ?_));refine bG 10 rfl ?_;refine bG 10 rfl ?_;refine bG 6 rfl ?_;refine bG 10 rfl ?_;refine bG 10 rfl ?_;refine bG 9 rfl ?_;refine bG 10 rfl ?_;cases h;exact qh c 7 rfl
   .replace h:=cQ (NJ hj) h;refine aO (tn (sr (fr 3 ?_)));refine lo xP ?_;obtain⟨U,gw,h⟩:=aa h;refine fr 4 ?_;refine kb (iW (N:=[(.tmp 41,.eq c),(.func 42,.eq (.func (.func 42) #[] #[]))]) (ax [.tmp 41,.func 42] rfl rfl Ux rfl (wx k u.1 U gw)) (λ_ _ _ hv hn=>⟨(lend hn.1 hv),hn.2.1,trivial⟩) (λ_=>⟨rfl,nA⟩)) ?_;obtain⟨Vu,Z,h⟩:=aa h;refine ja (ax [.tmp 42] rfl rfl PH rfl (kH k U Vu Z)) ?_;refine aq ?_;refine cq (nt (aA ?_));refine bG 2 rfl ?_;refine EM ?_;cases h;exact rb
   .replace h:=eQ (NG hj) h;cases h
def dB(k:Nat)(a0:ae)(r2:(List (List Int))×Int)(y8:Int):Nat->Int->Option (Except (Bool×Bool) Unit)
 |0,_=>none
 |n+1,c=>
  if c < a0.1 then((((aF r2.1 y8).bind λs=>
  (aF s c).bind λr=>
  if r < 0 then((ck (y8+1)).bind λl=>
  (aF r2.1 l).bind λj=>
  (aF j c).bind λh=>
  some (decide (0≤h))) else(some false)):Option (Bool)).bind λu=>
  if u=true then(some (.error (true,true))) else((ck (c+1)).bind λe=>
  dB k a0 r2 y8 n e)) else(some (.ok ()))
def eT(k:Nat)(a0:ae)(r2:(List (List Int))×Int):Nat->Int->Option (Except (Bool×Bool) Unit)
 |0,_=>none
 |n+1,y8=>
  if y8 < (a0.2.2.2.2.1.length:Int) then(bE (α:=Unit) (dB k a0 r2 y8 k 0) (λe=>some (.error e)) λ_=>
  (ck (y8+1)).bind λc=>
  eT k a0 r2 n c) else(some (.ok ()))
def j8(k:Nat)(a0:ae)(a1:(List Int))(a2:Int):Option (Bool×Bool):=
 (hJ k a0 a1).bind λr2=>
 ((if¬(r2.2=0) then(some true) else((lr k a0 r2.1).bind λr5=>
 some (!r5))):Option (Bool)).bind λx3=>
 if x3=true then(some (false,false)) else(bE (α:=Unit) (eT k a0 r2 k a2) (some) λ_=>
 some (false,true))
theorem vf(k:Nat)(a0:ae)(a1:(List Int))(a2:Int)(r:Bool×Bool)(h:j8 k a0 a1 a2=some r):
 ce (dU Tryz.prog) 13 [.rep an a0,.rep Tl a1,I a2] [] (λ_:Unit=>(bN [.eq (.bool r.1),.eq (.bool r.2)],[])):=by
 unfold j8 at h
 replace h:=bg h
 refine ce.of 59 Tryz.func13 rfl Tryz.ntmps13 rfl λS w0=>?_
 refine sr ?_
 refine bx λb1=>?_
 refine cq ?_
 refine cq ?_
 refine nt ?_
 refine sr ?_
 refine lo fE ?_
 refine mq ?_
 obtain⟨r2,mc,h⟩:=aa h
 have mw:=mQ k a0 a1 r2 mc
 refine jb (aW [.tmp 13,.tmp 14] rfl rfl PI rfl mw) ?_
 refine mq ?_
 refine xr ?_
 refine xr ?_
 refine aq ?_
 refine aq ?_
 refine nt ?_
 refine ak ?_
 refine aC (Z:=Unit) (α:=Bool) (λz4 x3=>[(2,I a2),(3,Pt b1),(8,.rep (.slice Tl) r2.1),(25,.eq (.bool x3))]) (λz4 x3=>[.obj b1 28 (.rep an a0)]) h (λK h=>?_) (λz4 x3 h=>?_)
 .
  refine ab (mq ?_);refine jb (fL rfl) ?_;refine mq ?_;refine cj (s:=20) rfl (λhb=>?_) (λhb=>?_)
  .replace h:=eQ (SQ hb) h;iterate 4 refine gn ?_
   refine pt (nl ?_);exact jz ((),true) h [0]
  .replace h:=cQ (Lp hb) h;refine mY rfl rfl rfl rfl rfl rfl (ay rfl fE (s7) rfl) ⟨rfl,trivial⟩ ?_;refine gm ?_;obtain⟨r5,gw,h⟩:=aa h;refine gb (ax [.tmp 21,.tmp 22] rfl rfl RI rfl (rX k a0 r2.1 r5 gw)) ?_;refine ga (gZ rfl) ?_;refine pf (nl ?_);exact jz ((), !r5) h [0]
 .
  refine cv h (λh=>?_) (λh=>?_)
  .refine sr (cq ?_);refine cq (nt (rx ?_));cases h;exact rb
  .refine sk (dk (Z:=Unit) (α:=Unit) (λz7 x6=>[]) (λz7 x6=>[]) (λe=>e=r) h (λe h=>Option.some.inj h) (λK hR h=>?_) (λz7 x6 h=>?_))
   .refine sr (mq ?_);refine aq (nt (ai ?_));refine aD (λz9 y8=>[(3,Pt b1),(8,.rep (.slice Tl) r2.1),(10,I y8)]) (λz9 y8=>[.obj b1 28 (.rep an a0)]) (eT k a0 r2) k () a2 (λ_=>rfl) h (SE.fin [0] ⟨rfl,rfl,rfl,trivial⟩ rfl) (λn z9 y8 h=>?_);unfold eT at h;refine ak (sr (mq ?_));refine fl dh ?_;refine lo ix ?_;refine ol vG ?_;refine jb (bo rfl) ?_;refine nt (ci h (λh=>?_) (λh=>?_))
    .refine sk (dk (Z:=Unit) (α:=Unit) (λx y=>[(3,Pt b1),(8,.rep (.slice Tl) r2.1),(10,I y8)]) (λx y=>[.obj b1 28 (.rep an a0)]) (λe=>e=r) h (λe h=>hR e h) (λK hR h=>?_) (λx y h=>?_))
     .refine ai (sr (cq (nt (ai ?_))));refine aD (λu c=>[(3,Pt b1),(8,.rep (.slice Tl) r2.1),(10,I y8),(11,I c)]) (λu c=>[.obj b1 28 (.rep an a0)]) (dB k a0 r2 y8) k () 0 (λ_=>rfl) h (SE.fin [0] ⟨rfl,rfl,rfl,rfl,trivial⟩ rfl) (λn u c h=>?_);unfold dB at h;refine ak (sr (mq ?_));refine fl gG ?_;refine lo cF ?_;refine jb (bo rfl) ?_;refine nt (ci h (λh=>?_) (λh=>?_))
      .refine sk (ak (ai (aC (Z:=Unit) (α:=Bool) (λl j=>[(3,Pt b1),(8,.rep (.slice Tl) r2.1),(10,I y8),(11,I c),(58,.eq (.bool j))]) (λl j=>[.obj b1 28 (.rep an a0)]) h (λK h=>?_) (λl j h=>?_))))
       .refine ab ?_;iterate 2 refine mq ?_
        obtain⟨Vu,Q,h⟩:=aa h;refine jb (aK (t:=Tl) rfl mM dN Q) ?_;refine ja (ao (t:=Tl) rfl dN rfl) ?_;refine mq ?_;obtain⟨Vt,O,h⟩:=aa h;refine jb (aK (t:=Ti) rfl ig cF O) ?_;refine ja (ao (t:=Ti) rfl cF rfl) ?_;refine jb (bo rfl) ?_;refine mq ?_;refine cj (s:=48) rfl (λhb=>?_) (λhb=>?_)
        .replace h:=eQ (sG hb) h;refine gm ?_;refine gm ?_;obtain⟨zz,M,h⟩:=aa h;refine gb (bj rfl M) ?_;obtain⟨qt,J,h⟩:=aa h;refine gb (aK (t:=Tl) rfl mM dN J) ?_;refine ga (ao (t:=Tl) rfl dN rfl) ?_;refine gm ?_;obtain⟨Y,F,h⟩:=aa h;refine gb (aK (t:=Ti) rfl ig cF F) ?_;refine ga (ao (t:=Ti) rfl cF rfl) ?_;refine gb (jX rfl) ?_;refine pt (nl ?_);exact jz ((),decide (0≤Y)) h [0]
        .replace h:=cQ (sH hb) h;iterate 9 refine gn ?_
         refine pf (nl ?_);exact jz ((),false) h [0]
       .refine cv h (λh=>?_) (λh=>?_)
        .refine sr (cq ?_);refine cq (nt (aA (br (bB (br (bB (bv ?_)))))));obtain rfl:=hR _ h;exact rb
        .refine bi (aO (tn (ab (mq ?_))));obtain⟨X,E,h⟩:=aa h;refine jb (bj rfl E) ?_;refine aq (nl ?_);exact jz ((),X) h [0]
      .refine fK (bM (bM (c6 (bn ?_))));exact jz ((),()) h [0]
     .refine ab (mq ?_);obtain⟨U,D,h⟩:=aa h;refine jb (bj rfl D) ?_;refine aq (nl ?_);exact jz ((),U) h [0]
    .refine xa ?_;exact jz ((),()) h []
   .refine sr (cq ?_);refine cq (nt (aA ?_));cases h;exact rb
def gi(k:Nat)(a2:Int)(r1:(List (List Int)))(x5:Int):Nat->Int->Option (Except Int Unit)
 |0,_=>none
 |n+1,y6=>
  if y6 < x5 then((aF r1 y6).bind λx8=>
  (aF x8 a2).bind λx9=>
  if 0≤x9 then(some (.error y6)) else((ck (y6+1)).bind λc=>
  gi k a2 r1 x5 n c)) else(some (.ok ()))
def iO(k:Nat)(a0:ae)(a1:Int)(a2:Int):Option Int:=
 (me k a0 a1).bind λr1=>
 bE (α:=Unit) ((ck ((a0.2.2.2.2.1.length:Int)+1)).bind λx5=>
 gi k a2 r1 x5 k 0) (some) λ_=>
 some (-1:Int)
theorem lL(k:Nat)(a0:ae)(c z_a0:Nat)(a1:Int)(a2:Int)(r:Int)(h:iO k a0 a1 a2=some r):
 ce (dU Tryz.prog) 77 [Pt c,.eq (.int .u8 a1),I a2] [.obj c 124 (aU a0 z_a0),.inv z_a0 (cg k a0)] (λ_:Unit=>(bN [I r],[.obj c 124 (aU a0 z_a0),.inv z_a0 (cg k a0)])):=by
 unfold iO at h
 replace h:=bg h
 refine ce.of 30 Tryz.func77 rfl Tryz.ntmps77 rfl λS w0=>?_
 refine sr ?_
 refine cq ?_
 refine nt ?_
 refine sr ?_
 iterate 2 refine mq ?_
 obtain⟨r1,D,h⟩:=aa h
 have E:=pU k a0 c z_a0 a1 r1 D
 refine fr 1 ?_
 refine fr 1 ?_
 refine aM (Δ:=[_,_]) (F:=_) (λ_ _ _=>ah rfl _) rfl rfl (aW [.tmp 9,.tmp 10] rfl rfl FN rfl E) ⟨rfl,rfl,trivial⟩ λ_=>?_
 refine aX rfl rfl rfl (be rfl zb A1) trivial λb2=>?_
 refine aN rfl rfl (aI rfl zy rfl rfl rfl) ⟨rfl,rfl,trivial⟩ ?_
 refine eg (jM (t:=(.arr 7 Tr)) (x:=r1) [7] .rep ⟨rfl,trivial⟩) ?_
 refine nt ?_
 refine dk (Z:=Unit) (α:=Unit) (λz4 x3=>[]) (λz4 x3=>[.obj c 124 (aU a0 z_a0),.inv z_a0 (cg k a0)]) (λe=>e=r) h (λe h=>Option.some.inj h) (λK hR h=>?_) (λz4 x3 h=>?_)
 .
  refine sr (mq ?_);refine ja (cP rfl) ?_;refine fl io ?_;refine fl dh ?_;refine lo ix ?_;refine ol vG ?_;obtain⟨x5,y,h⟩:=aa h;refine jb (bj rfl y) ?_;refine fH rfl ?_;refine nt (ai (aD (λz7 y6=>[(2,I a2),(7,.at (.arr 7 Tr) r1),(18,I x5),(19,I y6)]) (λz7 y6=>[.obj c 124 (aU a0 z_a0),.inv z_a0 (cg k a0)]) (gi k a2 r1 x5) k () 0 (λ_=>rfl) h (SE.fin [0,1] ⟨rfl,rfl,rfl,rfl,trivial⟩ rfl) (λn z7 y6 h=>?_)));unfold gi at h;refine sr (jb (bo rfl) ?_);refine nt (ak (ci h (λh=>?_) (λh=>?_)))
  .refine sk (ak (ai (sr (mq ?_))));refine aq (nt (sr ?_));iterate 2 refine mq ?_
   obtain⟨x8,u,h⟩:=aa h;refine jb (cz (t:=Tr) rfl wE fG u) ?_;obtain⟨x9,s,h⟩:=aa h;refine jb (cz (t:=Ti) rfl ru cF s) ?_;refine ja (ao (t:=Ti) rfl cF rfl) ?_;refine jb (jX rfl) ?_;refine nt (ci h (λh=>?_) (λh=>?_))
   .refine sr (mq ?_);refine aq (nt (aA (br (bB (bv ?_)))));obtain rfl:=hR _ h;exact aP () [_] 2 ⟨rfl,trivial⟩ rfl
   .refine bi (aO (tn (ab ?_)));obtain⟨l,j,h⟩:=aa h;refine jb (bj rfl j) ?_;refine mq (nl ?_);exact jz ((),l) h [0,1]
  .refine xa ?_;exact jz ((),()) h [0,1]
 .
  refine sr (cq (nt (aA ?_)));cases h;exact aP () [_] 2 ⟨rfl,trivial⟩ rfl
def kU(k:Nat)(a1:Int)(r3:(Option ae)×(List Int)×Int)(q4:ae):Nat->((List Int)×Int)->Option (List Int)
 |0,_=>none
 |n+1,y8=>
  if y8.2 < (r3.2.1.length:Int) then((((aF r3.2.1 y8.2).bind λh=>
  (iO k q4 h a1).bind λc=>
  if 0≤c then((cL (bD (length y8.1+length [c]))).bind λ_=>
  some (y8.1++[c])) else(some y8.1)):Option ((List Int))).bind λj=>
  (ck (y8.2+1)).bind λe=>
  kU k a1 r3 q4 n (j,e)) else(some y8.1)
def ta(k:Nat)(a0:ae)(a1:Int):Option (fU×Int):=
 (jG k a0 [a1] ([]:(List Int)) ([]:(List Int))).bind λr3=>
 gk r3.1 (if¬(r3.2.2=0) then(some ((0,0),r3.2.2)) else(none)) (λq4=>if¬(r3.2.2=0) then(some ((0,0),r3.2.2)) else(((kU k a1 r3 q4 k (([]:(List Int)),0)):Option ((List Int))).bind λx6=>
 if(x6.length:Int)=0 then(some ((0,0),11)) else((mh k x6).bind λe=>
 (oS k x6).bind λc=>
 some ((e,c),0))))
theorem yh(k:Nat)(a0:ae)(a1:Int)(r:fU×Int)(h:ta k a0 a1=some r):
 ce (dU Tryz.prog) 46 [.rep an a0,I a1] [] (λ_:Unit=>(bN [.rep bS r.1,I r.2],[])):=by
 unfold ta at h
 replace h:=bg h
 refine ce.of 51 Tryz.func46 rfl Tryz.ntmps46 rfl λS w0=>?_
 refine sr ?_
 refine bx λb1=>?_
 refine aX rfl rfl rfl (be rfl Bq RZ) trivial λb2=>?_
 refine cq ?_
 refine nt ?_
 refine sr ?_
 refine fr 1 ?_
 refine lo fE ?_
 refine mq ?_
 refine ja (bb (t:=Ti) [(.tmp 15,_)] [a1] rfl rfl dO (.cons rfl .int .nil) rfl rfl) ?_
 obtain⟨r3,Y,h⟩:=aa h
 have s:=nT k a0 [a1] ([]:(List Int)) ([]:(List Int)) r3 Y
 rcases hr:r3.1 with _ |q4
 .
  rw [hr] at h s;replace h:=wB h;refine aM (Δ:=[]) (F:=_) (λ_ _ _=>ah rfl _) rfl rfl (bY (N:=[(.tmp 14,.rep an a0),(.tmp 16,.rep Tl [a1]),(.const (.slice none 0 0),.eq (.slice none 0 0)),(.const (.slice none 0 0),.eq (.slice none 0 0))]) (aW [.tmp 14,.tmp 16,.const (.slice none 0 0),.const (.slice none 0 0)] rfl rfl FP rfl s) λ_ _ _ hn=>⟨hn.1,hn.2.1,(aJ (t:=Tl) (x:=([]:(List Int))) .nil rfl rfl hn.2.2.1),(aJ (t:=Tl) (x:=([]:(List Int))) .nil rfl rfl hn.2.2.2.1),trivial⟩) ⟨rfl,rfl,rfl,rfl,trivial⟩ λ_=>?_;refine mq ?_;refine xr ?_;refine xr ?_;refine xr ?_;refine aq ?_;refine aq ?_;refine aq (nt (ak (sr ?_)));refine mq ?_;refine jb (fL rfl) ?_;refine nt (cn h (λh=>?_) (λh=>?_))
  .refine sr (cy rfl (eE [] rfl HG Bq AY (jV trivial) rfl) trivial ?_);refine mq ?_;refine fr 1 ?_;refine aN rfl rfl (aI rfl wh trivial rfl rfl) ⟨rfl,rfl,trivial⟩ ?_;refine aq (nt (rx ?_));refine bK (gq (a:=.agg (.pair (I 0) (I 0))) (a':=.rep bS (0,0)) (iY (.agg (.pair .int .int)))) ?_;cases h;exact aP () [.rep bS (0,0),_] 0 ⟨⟨_,_,_,_,_,rfl,(.head _),wh,(s7),rfl⟩,rfl,trivial⟩ rfl
  .cases h
 .
  rw [hr] at h s;replace h:=wA h;refine aM (Δ:=[]) (F:=_) (λ_ _ _=>ah rfl _) rfl rfl (bY (N:=[(.tmp 14,.rep an a0),(.tmp 16,.rep Tl [a1]),(.const (.slice none 0 0),.eq (.slice none 0 0)),(.const (.slice none 0 0),.eq (.slice none 0 0))]) (aW [.tmp 14,.tmp 16,.const (.slice none 0 0),.const (.slice none 0 0)] rfl rfl FP rfl s) λ_ _ _ hn=>⟨hn.1,hn.2.1,(aJ (t:=Tl) (x:=([]:(List Int))) .nil rfl rfl hn.2.2.1),(aJ (t:=Tl) (x:=([]:(List Int))) .nil rfl rfl hn.2.2.2.1),trivial⟩) ⟨rfl,rfl,rfl,rfl,trivial⟩ λz5=>?_;refine mq ?_;refine xr ?_;refine xr ?_;refine xr ?_;refine aq ?_;refine aq ?_;refine aq (nt (ak (sr ?_)));refine mq ?_;refine jb (fL rfl) ?_;refine nt (cn h (λh=>?_) (λh=>?_))
  .refine sr (cy rfl (eE [] rfl HG Bq AY (jV trivial) rfl) trivial ?_);refine mq ?_;refine fr 3 ?_;refine aN rfl rfl (aI rfl wh trivial rfl rfl) ⟨rfl,rfl,trivial⟩ ?_;refine aq (nt (rx ?_));refine bK (gq (a:=.agg (.pair (I 0) (I 0))) (a':=.rep bS (0,0)) (iY (.agg (.pair .int .int)))) ?_;cases h;exact aP () [.rep bS (0,0),_] 0 ⟨⟨_,_,_,_,_,rfl,(.head _),wh,(s7),rfl⟩,rfl,trivial⟩ rfl
  .refine sk (sr (cq (nt ?_)));refine aC (Z:=Value) (α:=(List Int)) (λz7 x6=>[(4,Pt b2),(9,.eq z7)]) (λz7 x6=>[.obj b2 88 (.agg (.pair (I 0) (I 0))),.sl z7 3 Ti x6,.inv z5.2 (cg k q4)]) h (λK h=>?_) (λz7 x6 h=>?_)
   .refine sr (mq ?_);refine ol Bo ?_;refine fH rfl ?_;refine nt (ai (f5 (SE.nil 3 Ti) ?_));refine aD (λz9 y8=>[(1,I a1),(4,Pt b2),(6,.eq (.pointer (some ⟨z5.1,0,none⟩))),(9,.eq z9),(25,.rep (.slice (.int .u8)) r3.2.1),(26,I (r3.2.1.length:Int)),(27,I y8.2)]) (λz9 y8=>[.obj b2 88 (.agg (.pair (I 0) (I 0))),.obj z5.1 124 (aU q4 z5.2),.sl z9 3 Ti y8.1,.inv z5.2 (cg k q4)]) (kU k a1 r3 q4) k (.slice none 0 0) (([]:(List Int)),0) (λ_=>rfl) h (SE.fin [4,1,0,2] ⟨rfl,rfl,rfl,rfl,rfl,rfl,rfl,trivial⟩ rfl) (λn z9 y8 h=>?_);unfold kU at h;refine sr (jb (bo rfl) ?_);refine nt (ak (ci h (λh=>?_) (λh=>?_)))
    .refine sk (aC (Z:=Value) (α:=(List Int)) (λc e=>[(1,I a1),(4,Pt b2),(6,.eq (.pointer (some ⟨z5.1,0,none⟩))),(9,.eq c),(25,.rep (.slice (.int .u8)) r3.2.1),(26,I (r3.2.1.length:Int)),(27,I y8.2)]) (λc e=>[.obj b2 88 (.agg (.pair (I 0) (I 0))),.obj z5.1 124 (aU q4 z5.2),.sl c 3 Ti e,.inv z5.2 (cg k q4)]) h (λK h=>?_) (λc e h=>?_))
     .refine ai (sr ?_);obtain⟨U,D,h⟩:=aa h;refine jb (aK (t:=(.int .u8)) rfl Bo qE D) ?_;refine ja (ao (t:=(.int .u8)) rfl qE rfl) ?_;refine aq (nt (sr ?_));iterate 3 refine mq ?_
      obtain⟨u,O,h⟩:=aa h;refine fr 3 ?_;refine fr 2 ?_;refine aM (Δ:=[_,_]) (F:=_) (λ_ _ _=>ah rfl _) rfl rfl (aW [.tmp 31,.tmp 32,.tmp 33] rfl rfl Ry rfl (lL k q4 z5.1 z5.2 U a1 u O)) ⟨rfl,rfl,rfl,trivial⟩ λ_=>?_;refine aq (nt (sr ?_));refine mq ?_;refine jb (jX rfl) ?_;refine nt (ci h (λh=>?_) (λh=>?_))
      .refine ab ?_;iterate 2 refine mq ?_
       refine ja (bb (t:=Ti) [(.tmp 38,_)] [u] rfl rfl dO (.cons rfl .int .nil) rfl rfl) ?_;obtain⟨gw,E,h⟩:=aa h;refine fr 3 ?_;refine dK rfl rfl rfl (bV rfl rfl dO (am E)) ⟨rfl,rfl,trivial⟩ λX=>?_;refine aq (aE (bn ?_));exact jz (X,y8.1++[u]) h [3,1,0,2]
      .refine bi (bn ?_);exact jz (z9,y8.1) h [2,0,3,1]
     .refine ab ?_;obtain⟨Q,y,h⟩:=aa h;refine jb (bj rfl y) ?_;refine mq (nl ?_);exact jz (c,(e,Q)) h [0,1,2,3]
    .refine xa ?_;exact jz (z9,y8.1) h [0,2,3]
   .refine ak (sr (mq ?_));refine fr 1 ?_;refine ka (jD rfl rfl ig) ?_;refine jb (jm rfl) ?_;refine nt (ci h (λh=>?_) (λh=>?_))
    .refine sr (cy rfl (eE [] rfl HG Bq AY (jV trivial) rfl) trivial ?_);refine fr 1 ?_;refine aN rfl rfl (aI rfl wh trivial rfl rfl) ⟨rfl,rfl,trivial⟩ ?_;refine cq (nt (rx ?_));refine bK (gq (a:=.agg (.pair (I 0) (I 0))) (a':=.rep bS (0,0)) (iY (.agg (.pair .int .int)))) ?_;cases h;exact aP () [.rep bS (0,0),_] 0 ⟨⟨_,_,_,_,_,rfl,(.head _),wh,(s7),rfl⟩,rfl,trivial⟩ rfl
    .refine sk (sr (mq ?_));obtain⟨l,M,h⟩:=aa h;refine ka (iW (N:=[(.tmp 46,.eq z7)]) (ax [.tmp 46] rfl rfl Rx rfl (oR k x6 l M)) (λ_ _ _ hv hn=>⟨(lend hn.1 hv),trivial⟩) (λ_=>⟨rfl,nA⟩)) ?_;refine mq ?_;obtain⟨j,J,h⟩:=aa h;refine ka (iW (N:=[(.tmp 48,.eq z7)]) (ax [.tmp 48] rfl rfl Ug rfl (uG k x6 j J)) (λ_ _ _ hv hn=>⟨(lend hn.1 hv),trivial⟩) (λ_=>⟨rfl,nA⟩)) ?_;refine jb (eE [(0,.tmp 47,_),(1,.tmp 49,_)] rfl HG Bq AY (jV ⟨rfl,rfl,trivial⟩) rfl) ?_;refine fr 1 ?_;refine aN rfl rfl (aI rfl wh trivial rfl rfl) ⟨rfl,rfl,trivial⟩ ?_;refine cq (nt (aA ?_));refine bK (gq (a:=.agg (.pair (I l) (I j))) (a':=.rep bS (l,j)) (iY (.agg (.pair .int .int)))) ?_;cases h;exact aP () [.rep bS (l,j),_] 0 ⟨⟨_,_,_,_,_,rfl,(.head _),wh,(s7),rfl⟩,rfl,trivial⟩ rfl
def gP(k:Nat)(r2:(List (List Int)))(y6:Int×Int×(List (fe×fe))):Nat->Int->Option Int
 |0,_=>none
 |n+1,c=>
  ((if 0 < c then((ck (c - 1)).bind λl=>
  (aF r2 l).bind λj=>
  (aF j y6.1).bind λh=>
  some (decide (0≤h))) else(some false)):Option (Bool)).bind λr=>
  if r=true then((ck (c - 1)).bind λe=>
  gP k r2 y6 n e) else(some c)
def gQ(k:Nat)(a0:ae)(r2:(List (List Int))):Nat->(Int×Int×(List (fe×fe)))->Option (List (fU×fU))
 |0,_=>none
 |n+1,y6=>
  bE (α:=Int×Int×(List (fe×fe))) (((gP k r2 y6 k y6.2.1):Option (Int)).bind λc=>
  if c=0 then((cL (zu (y6.1,y6.2.1))).bind λ_=>
  some (.error (Ci y6.2.2 (y6.1,y6.2.1) ((-1:Int),0)))) else((ck (c - 1)).bind λr=>
  (aF r2 r).bind λl=>
  (ck (c - 1)).bind λj=>
  (dA k a0 l y6.1 j).bind λh=>
  (ck (c - 1)).bind λe=>
  (cL (zu (y6.1,y6.2.1))).bind λ_=>
  some (.ok (h,e,Ci y6.2.2 (y6.1,y6.2.1) (h,e))))) (some) λx8=>
  gQ k a0 r2 n (x8.1,x8.2.1,x8.2.2)
def lN(k:Nat)(a0:ae)(a1:Int)(a2:fU):Option (List (fU×fU)):=
 (me k a0 a1).bind λr2=>
 gQ k a0 r2 k (a2.1,a2.2,([]:List (fe×fe)))
theorem rU(k:Nat)(a0:ae)(c z_a0:Nat)(a1:Int)(a2:fU)(r:(List (fU×fU)))(h:lN k a0 a1 a2=some r):
 ce (dU Tryz.prog) 80 [Pt c,.eq (.int .u8 a1),.rep bS a2] [.obj c 124 (aU a0 z_a0),.inv z_a0 (cg k a0)] (λz:Nat=>(bN [.eq (.map (some z))],[.inv z (t6 r),.obj c 124 (aU a0 z_a0),.inv z_a0 (cg k a0)])):=by
 unfold lN at h
 replace h:=bg h
 refine ce.of 56 Tryz.func80 rfl Tryz.ntmps80 rfl λS w0=>?_
 refine sr ?_
 refine bx λb1=>?_
 refine cq ?_
 refine nt ?_
 refine sr ?_
 iterate 2 refine mq ?_
 obtain⟨r2,VN,h⟩:=aa h
 have VO:=pU k a0 c z_a0 a1 r2 VN
 refine fr 2 ?_
 refine fr 2 ?_
 refine aM (Δ:=[_,_]) (F:=_) (λ_ _ _=>ah rfl _) rfl rfl (aW [.tmp 12,.tmp 13] rfl rfl FN rfl VO) ⟨rfl,rfl,trivial⟩ λ_=>?_
 refine aX rfl rfl rfl (be rfl zb A1) trivial λb3=>?_
 refine aN rfl rfl (aI rfl zy rfl rfl rfl) ⟨rfl,rfl,trivial⟩ ?_
 refine eg (jM (t:=(.arr 7 Tr)) (x:=r2) [7] .rep ⟨rfl,trivial⟩) ?_
 refine nt ?_
 refine sr ?_
 refine aX rfl rfl rfl (wX rfl) trivial λz4=>?_
 refine eg (tJ (t6 []) Kw) ?_
 refine aq ?_
 refine nt ?_
 refine sr ?_
 refine aX rfl rfl rfl (be rfl tP AZ) trivial λb5=>?_
 refine nt ?_
 refine sr ?_
 refine fl yx ?_
 refine aN rfl rfl (aI rfl cF rfl rfl rfl) ⟨rfl,rfl,trivial⟩ ?_
 refine nt ?_
 refine ai ?_
 refine dy 4 rfl ?_
 refine f5 (gq (a:=.rep bS a2) (a':=.agg (.pair (I a2.1) (I a2.2))) (AE.trans EV (AE.agg (AE.trans Bf (AE.pair AE.int AE.int))))) ?_
 refine aD (λz7 y6=>[(0,Pt c),(5,Pt b1),(7,.at (.arr 7 Tr) r2),(8,.eq (.map (some z4))),(9,Pt b5)]) (λz7 y6=>[.obj c 124 (aU a0 z_a0),.obj b1 134 (.agg (.pair (I y6.1) (I y6.2.1))),.obj b5 134 (.agg (.pair (I (-1:Int)) (I 0))),.inv z_a0 (cg k a0),.inv z4 (t6 y6.2.2)]) (gQ k a0 r2) k () (a2.1,a2.2,([]:List (fe×fe))) (λ_=>rfl) h (SE.fin [3,0,1,4,2] ⟨rfl,rfl,rfl,rfl,rfl,trivial⟩ rfl) (λn z7 y6 h=>?_)
 unfold gQ at h
 refine JK (Z:=Unit) (α:=Int×Int×(List (fe×fe))) (λz9 x8=>[(0,Pt c),(5,Pt b1),(7,.at (.arr 7 Tr) r2),(8,.eq (.map (some z4))),(9,Pt b5)]) (λz9 x8=>[.obj c 124 (aU a0 z_a0),.obj b1 134 (.agg (.pair (I x8.1) (I x8.2.1))),.obj b5 134 (.agg (.pair (I (-1:Int)) (I 0))),.inv z_a0 (cg k a0),.inv z4 (t6 x8.2.2)]) (λe=>e=r) h (λe h=>Option.some.inj h) (λK hR h=>?_) (λz9 x8 h=>?_)
 .
  refine ai (sr (fl L0 ?_));refine fr 1 ?_;refine lo cF ?_;refine aq (nt ?_);refine aC (Z:=Unit) (α:=Int) (λO D=>[(0,Pt c),(5,Pt b1),(7,.at (.arr 7 Tr) r2),(8,.eq (.map (some z4))),(9,Pt b5),(10,I D)]) (λO D=>[.obj c 124 (aU a0 z_a0),.obj b1 134 (.agg (.pair (I y6.1) (I y6.2.1))),.obj b5 134 (.agg (.pair (I (-1:Int)) (I 0))),.inv z_a0 (cg k a0),.inv z4 (t6 y6.2.2)]) h (λK h=>?_) (λO D h=>?_)
  .refine ai (aD (λM s=>[(0,Pt c),(5,Pt b1),(7,.at (.arr 7 Tr) r2),(8,.eq (.map (some z4))),(9,Pt b5),(10,I s)]) (λM s=>[.obj c 124 (aU a0 z_a0),.obj b1 134 (.agg (.pair (I y6.1) (I y6.2.1))),.obj b5 134 (.agg (.pair (I (-1:Int)) (I 0))),.inv z_a0 (cg k a0),.inv z4 (t6 y6.2.2)]) (gP k r2 y6) k () y6.2.1 (λ_=>rfl) h (SE.fin [1,0,2,3,4] ⟨rfl,rfl,rfl,rfl,rfl,rfl,trivial⟩ rfl) (λn M s h=>?_));unfold gP at h;refine ak (aC (Z:=Unit) (α:=Bool) (λJ y=>[(0,Pt c),(5,Pt b1),(7,.at (.arr 7 Tr) r2),(8,.eq (.map (some z4))),(9,Pt b5),(10,I s),(30,.eq (.bool y))]) (λJ y=>[.obj c 124 (aU a0 z_a0),.obj b1 134 (.agg (.pair (I y6.1) (I y6.2.1))),.obj b5 134 (.agg (.pair (I (-1:Int)) (I 0))),.inv z_a0 (cg k a0),.inv z4 (t6 y6.2.2)]) h (λK h=>?_) (λJ y h=>?_))
   .refine cN ?_;refine dm ?_;refine db (nm rfl) ?_;refine uv rfl rfl rfl (aV rfl) ⟨rfl,trivial⟩ (λhb=>?_) (λhb=>?_)
    .replace h:=eQ (sG hb) h;refine dn rfl rfl rfl rfl rfl (aV rfl) ⟨rfl,rfl,trivial⟩ ?_;obtain⟨VY,Vw,h⟩:=aa h;refine dn rfl rfl rfl rfl rfl (dL rfl Vw) ⟨rfl,rfl,rfl,trivial⟩ ?_;refine dn rfl rfl rfl rfl rfl (aG rfl yx) ⟨rfl,rfl,trivial⟩ ?_;refine ir 1 rfl rfl rfl rfl rfl rfl (ay rfl cF o8 rfl) ⟨rfl,rfl,trivial⟩ ?_;obtain⟨VX,Vv,h⟩:=aa h;refine dn rfl rfl rfl rfl rfl (cz (t:=Tr) rfl wE fG Vv) ⟨rfl,rfl,rfl,trivial⟩ ?_;refine df dS ?_;obtain⟨VD,Vu,h⟩:=aa h;refine gb (cz (t:=Ti) rfl ru cF Vu) ?_;refine ga (ao (t:=Ti) rfl cF rfl) ?_;refine gb (jX rfl) ?_;refine pt (nl ?_);exact jz ((),decide (0≤VD)) h [0,1,2,3,4]
    .replace h:=cQ (sH hb) h;iterate 5 refine dg ?_
     refine df dS ?_;iterate 3 refine gn ?_
     refine pf (nl ?_);exact jz ((),false) h [0,1,2,3,4]
   .refine cv h (λh=>?_) (λh=>?_)
    .refine sk (ai (ab (mq ?_)));obtain⟨VC,Vt,h⟩:=aa h;refine jb (dL rfl Vt) ?_;refine aq (aE (bn ?_));exact jz ((),VC) h [0,1,2,3,4]
    .refine xa ?_;exact jz ((),s) h [0,1,2,3,4]
  .refine ak (sr (mq ?_));refine jb (jm rfl) ?_;refine nt (ci h (λh=>?_) (λh=>?_))
   .refine sr (mq ?_);refine fr 1 ?_;refine lo jU ?_;refine fr 2 ?_;refine lo jU ?_;refine eg (eV (t:=bS) (x:=(y6.1,y6.2.1)) 36 rfl (.agg (.pair .int .int)) trivial rfl) ?_;obtain⟨Wg,Vy,h⟩:=aa h;refine eg (eV (t:=bS) (x:=((-1:Int),0)) 37 rfl (.agg (.pair .int .int)) trivial rfl) ?_;refine fr 4 ?_;refine aN rfl rfl (rM (K:=lA) (V:=lA) (t:=(y6.1,y6.2.1)) (n:=((-1:Int),0)) (l:=y6.2.2) (λ_ _ _ h=>nM h) rfl Gf nf (λ_ _ _ h=>nM h) (rF (am Vy)) (rE _) rG) ⟨rfl,rfl,rfl,trivial⟩ ?_;refine nt (sr (mq ?_));refine aq (nt (rx (br (bB ?_))));refine bK (SE.fin (Γ':=[(6,_)]) [0,3,4,1,2] ⟨rfl,trivial⟩ rfl) ?_;obtain rfl:=hR _ h;exact aP z4 [.eq (.map (some z4))] 3 ⟨rfl,trivial⟩ rfl
   .refine sk (ak (nH ?_));refine ba rfl rfl rfl (aV rfl) ⟨rfl,trivial⟩ ?_;refine ba rfl rfl rfl (aV rfl) ⟨rfl,trivial⟩ ?_;obtain⟨VV,zz,h⟩:=aa h;refine ba rfl rfl rfl (dL rfl zz) ⟨rfl,rfl,trivial⟩ ?_;obtain⟨VB,qt,h⟩:=aa h;refine ba rfl rfl rfl (cz (t:=Tr) rfl wE fG qt) ⟨rfl,rfl,trivial⟩ ?_;refine ba rfl rfl rfl (ao (t:=Tr) rfl fG rfl) ⟨rfl,trivial⟩ ?_;refine ba rfl rfl rfl (aG rfl yx) ⟨rfl,trivial⟩ ?_;refine ff 1 rfl rfl rfl rfl (ay rfl cF o8 rfl) ⟨rfl,trivial⟩ ?_;refine ba rfl rfl rfl (aV rfl) ⟨rfl,trivial⟩ ?_;obtain⟨VA,mw,h⟩:=aa h;refine ba rfl rfl rfl (dL rfl mw) ⟨rfl,rfl,trivial⟩ ?_;obtain⟨j,Vz,h⟩:=aa h;refine ff 0 rfl rfl rfl rfl (ax [.tmp 39,.tmp 43,.tmp 45,.tmp 47] rfl rfl NX rfl (oG k a0 c z_a0 VB y6.1 VA j Vz)) ⟨rfl,rfl,rfl,rfl,trivial⟩ ?_;refine ba rfl rfl rfl (aV rfl) ⟨rfl,trivial⟩ ?_;obtain⟨u,mc,h⟩:=aa h;refine ba rfl rfl rfl (dL rfl mc) ⟨rfl,rfl,trivial⟩ ?_;refine ba rfl rfl rfl (eE [(0,.tmp 48,_),(1,.tmp 50,_)] rfl HH tP Dh (jV ⟨rfl,rfl,trivial⟩) rfl) ⟨rfl,rfl,trivial⟩ ?_;refine EP (KW 134 (.agg (.pair (I 0) (I 0)))) (λ_=>rfl) rfl rfl rfl (be rfl tP AZ) trivial ?_;refine ry 14 [true,true,true,true,true,true,true,true,true,true,true,true,true,true] [] [] [] rfl (by kernel_rfl) (by kernel_rfl) (by kernel_rfl) dS (λvs hv hB=>?_);obtain⟨w0,Wc,rfl,VM⟩:=ap hv;obtain⟨w1,Wb,rfl,VL⟩:=ap VM;obtain⟨w2,Wa,rfl,VK⟩:=ap VL;obtain⟨w3,V9,rfl,VJ⟩:=ap VK;obtain⟨w4,V8,rfl,VI⟩:=ap VJ;obtain⟨w5,V7,rfl,VH⟩:=ap VI;obtain⟨w6,V6,rfl,VG⟩:=ap VH;obtain⟨w7,V5,rfl,VF⟩:=ap VG;obtain⟨w8,V4,rfl,VE⟩:=ap VF;obtain⟨w9,VU,rfl,gw⟩:=ap VE;obtain⟨V3,VT,rfl,Y⟩:=ap gw;obtain⟨V2,VS,rfl,X⟩:=ap Y;obtain⟨V0,VQ,rfl,U⟩:=ap X;obtain⟨VZ,VP,rfl,Q⟩:=ap U;obtain rfl:=nZ Q;obtain⟨E,rfl⟩:=HD hB.2.2.2.2.2.2.2.2.2.2.2.2.2.1;refine⟨[0,1,2,3,4,5],[.obj c 124 (aU a0 z_a0),.obj b1 134 (.agg (.pair (I y6.1) (I y6.2.1))),.obj b5 134 (.agg (.pair (I (-1:Int)) (I 0))),.inv z_a0 (cg k a0),.inv z4 (t6 y6.2.2),.obj E 134 (.agg (.pair (I 0) (I 0)))],by kernel_rfl,by decide,?_⟩;refine py 5 rfl ?_;refine oq rfl rfl (aI rfl jU trivial rfl rfl) ⟨rfl,rfl,trivial⟩ (by kernel_rfl) ?_;refine tL ?_;refine bK (SE.fin (Γ':=[(0,Pt c),(5,Pt b1),(7,.at (.arr 7 Tr) r2),(8,.eq (.map (some z4))),(9,Pt b5),(11,Pt E)]) (Δ':=[.obj E 134 (.agg (.pair (I j) (I u))),.obj c 124 (aU a0 z_a0),.obj b1 134 (.agg (.pair (I y6.1) (I y6.2.1))),.obj b5 134 (.agg (.pair (I (-1:Int)) (I 0))),.inv z_a0 (cg k a0),.inv z4 (t6 y6.2.2)]) [0,1,2,3,4,5] ⟨rfl,rfl,rfl,rfl,rfl,rfl,trivial⟩ rfl) ?_;refine tn (sr (mq ?_));refine fr 2 ?_;refine lo jU ?_;refine fr 1 ?_;refine lo jU ?_;refine eg (eV (t:=bS) (x:=(y6.1,y6.2.1)) 53 rfl (.agg (.pair .int .int)) trivial rfl) ?_;obtain⟨We,Vx,h⟩:=aa h;refine eg (eV (t:=bS) (x:=(j,u)) 54 rfl (.agg (.pair .int .int)) trivial rfl) ?_;refine fr 5 ?_;refine aN rfl rfl (rM (K:=lA) (V:=lA) (t:=(y6.1,y6.2.1)) (n:=(j,u)) (l:=y6.2.2) (λ_ _ _ h=>nM h) rfl Gf nf (λ_ _ _ h=>nM h) (rF (am Vx)) (rE _) rG) ⟨rfl,rfl,rfl,trivial⟩ ?_
    refine nt (ab (fr 1 ?_));refine lo jU ?_;refine fr 2 ?_;refine aN rfl rfl (aI rfl jU trivial rfl rfl) ⟨rfl,rfl,trivial⟩ ?_;refine aE (bn ?_);exact jz ((),(j,u,Ci y6.2.2 (y6.1,y6.2.1) (j,u))) h [3,0,4,5,2]
 .
  refine au ?_;exact jz ((),(x8.1,x8.2.1,x8.2.2)) h [0,1,2,3,4]
def kV(k:Nat)(r7:(List (fU×fU))):Nat->(Int×Int×(List Int))->Option (List Int)
 |0,_=>none
 |n+1,c=>
  (cL (zu (c.1,c.2.1))).bind λ_=>
  if¬((nX r7 (c.1,c.2.1) (0,0))=((-1:Int),0)) then((cL (zu (c.1,c.2.1))).bind λ_=>
  (cL (bD (length c.2.2+length [(nX r7 (c.1,c.2.1) (0,0)).1]))).bind λ_=>
  (cL (zu (c.1,c.2.1))).bind λ_=>
  kV k r7 n ((nX r7 (c.1,c.2.1) (0,0)).1,(nX r7 (c.1,c.2.1) (0,0)).2,c.2.2++[(nX r7 (c.1,c.2.1) (0,0)).1])) else(some c.2.2)
def tc(k:Nat)(a0:ae)(a1:(List Int))(a2:Int):Option ((List Int)×Int):=
 (j6 k a0 a1 [a2] ([]:(List Int)) ([]:(List Int))).bind λr2=>
 gk r2.1 (if¬(r2.2.2=0) then(some (([]:(List Int)),r2.2.2)) else(none)) (λq3=>if¬(r2.2.2=0) then(some (([]:(List Int)),r2.2.2)) else((iO k q3 r2.2.1 a2).bind λr5=>
 if r5 < 0 then(some (([]:(List Int)),11)) else((lN k q3 r2.2.1 (a2,r5)).bind λr7=>
 ((kV k r7 k (a2,r5,[a2])):Option ((List Int))).bind λc=>
 (kB k c).bind λe=>
 some (e,0))))
theorem yj(k:Nat)(a0:ae)(a1:(List Int))(a2:Int)(r:(List Int)×Int)(h:tc k a0 a1 a2=some r):
 ce (dU Tryz.prog) 47 [.rep an a0,.rep Tl a1,I a2] [] (λ_:Unit=>(bN [.rep Tl r.1,I r.2],[])):=by
 unfold tc at h
 replace h:=bg h
 refine ce.of 64 Tryz.func47 rfl Tryz.ntmps47 rfl λS w0=>?_
 refine sr ?_
 refine bx λb1=>?_
 refine cq ?_
 refine cq ?_
 refine nt ?_
 refine sr ?_
 refine lo fE ?_
 iterate 2 refine mq ?_
 refine ja (bb (t:=Ti) [(.tmp 19,_)] [a2] rfl rfl dO (.cons rfl .int .nil) rfl rfl) ?_
 obtain⟨r2,Y,h⟩:=aa h
 have u:=mt k a0 a1 [a2] ([]:(List Int)) ([]:(List Int)) r2 Y
 rcases hr:r2.1 with _ |q3
 .
  rw [hr] at h u;replace h:=wB h;refine aM (Δ:=[]) (F:=_) (λ_ _ _=>ah rfl _) rfl rfl (bY (N:=[(.tmp 17,.rep an a0),(.tmp 18,.rep Tl a1),(.tmp 20,.rep Tl [a2]),(.const (.slice none 0 0),.eq (.slice none 0 0)),(.const (.slice none 0 0),.eq (.slice none 0 0))]) (aW [.tmp 17,.tmp 18,.tmp 20,.const (.slice none 0 0),.const (.slice none 0 0)] rfl rfl AC rfl u) λ_ _ _ hn=>⟨hn.1,hn.2.1,hn.2.2.1,(aJ (t:=Tl) (x:=([]:(List Int))) .nil rfl rfl hn.2.2.2.1),(aJ (t:=Tl) (x:=([]:(List Int))) .nil rfl rfl hn.2.2.2.2.1),trivial⟩) ⟨rfl,rfl,rfl,rfl,rfl,trivial⟩ λ_=>?_;refine mq ?_;refine xr ?_;refine xr ?_;refine xr ?_;refine aq ?_;refine aq ?_;refine aq (nt (ak (sr ?_)));refine mq ?_;refine jb (fL rfl) ?_;refine nt (cn h (λh=>?_) (λh=>?_))
  .refine sr (mq ?_);refine cq ?_;refine aq (nt (rx ?_));refine bK (eV (t:=Tl) (x:=([]:(List Int))) 6 rfl .nil rfl rfl) ?_;cases h;exact rb
  .cases h
 .
  rw [hr] at h u;replace h:=wA h;refine aM (Δ:=[]) (F:=_) (λ_ _ _=>ah rfl _) rfl rfl (bY (N:=[(.tmp 17,.rep an a0),(.tmp 18,.rep Tl a1),(.tmp 20,.rep Tl [a2]),(.const (.slice none 0 0),.eq (.slice none 0 0)),(.const (.slice none 0 0),.eq (.slice none 0 0))]) (aW [.tmp 17,.tmp 18,.tmp 20,.const (.slice none 0 0),.const (.slice none 0 0)] rfl rfl AC rfl u) λ_ _ _ hn=>⟨hn.1,hn.2.1,hn.2.2.1,(aJ (t:=Tl) (x:=([]:(List Int))) .nil rfl rfl hn.2.2.2.1),(aJ (t:=Tl) (x:=([]:(List Int))) .nil rfl rfl hn.2.2.2.2.1),trivial⟩) ⟨rfl,rfl,rfl,rfl,rfl,trivial⟩ λz4=>?_;refine mq ?_;refine xr ?_;refine xr ?_;refine xr ?_;refine aq ?_;refine aq ?_;refine aq (nt (ak (sr ?_)));refine mq ?_;refine jb (fL rfl) ?_;refine nt (cn h (λh=>?_) (λh=>?_))
  .refine sr (mq ?_);refine cq ?_;refine aq (nt (rx ?_));refine bK (eV (t:=Tl) (x:=([]:(List Int))) 6 rfl .nil rfl rfl) ?_;cases h;exact rb
  .refine sk (sr ?_);iterate 3 refine mq ?_
   obtain⟨r5,X,h⟩:=aa h;refine fr 1 ?_;refine fr 1 ?_;refine aM (Δ:=[_,_]) (F:=_) (λ_ _ _=>ah rfl _) rfl rfl (aW [.tmp 28,.tmp 29,.tmp 30] rfl rfl Ry rfl (lL k q3 z4.1 z4.2 r2.2.1 a2 r5 X)) ⟨rfl,rfl,rfl,trivial⟩ λ_=>?_;refine aq (nt (ak (sr ?_)));refine mq ?_;refine jb (bo rfl) ?_;refine nt (ci h (λh=>?_) (λh=>?_))
   .refine sr (cq ?_);refine cq (nt (rx ?_));refine bK (eV (t:=Tl) (x:=([]:(List Int))) 6 rfl .nil rfl rfl) ?_;cases h;exact rb
   .refine sk (sr ?_);iterate 2 refine mq ?_
    refine jb (eE [(0,.tmp 34,_),(1,.tmp 35,_)] rfl HH tP Dh (jV ⟨rfl,rfl,trivial⟩) rfl) ?_;refine aX rfl rfl rfl (be rfl tP AZ) trivial λb6=>?_;refine aN rfl rfl (aI rfl jU trivial rfl rfl) ⟨rfl,rfl,trivial⟩ ?_;refine nt (sr ?_);iterate 2 refine mq ?_
    refine lo jU ?_;obtain⟨r7,U,h⟩:=aa h;refine fr 2 ?_;refine fr 2 ?_;refine aM (Δ:=[_,_]) (F:=_) (λ_ _ _=>ah rfl _) rfl rfl (bY (N:=[(.tmp 37,.eq (.pointer (some ⟨z4.1,0,none⟩))),(.tmp 38,.eq (.int .u8 r2.2.1)),(.tmp 39,.agg (.pair (I a2) (I r5)))]) (aW [.tmp 37,.tmp 38,.tmp 39] rfl rfl Uf rfl (rU k q3 z4.1 z4.2 r2.2.1 (a2,r5) r7 U)) λ_ _ _ hn=>⟨hn.1,hn.2.1,(aJ (t:=bS) (x:=(a2,r5)) (.agg (.pair .int .int)) trivial rfl hn.2.2.1),trivial⟩) ⟨rfl,rfl,rfl,trivial⟩ λz8=>?_;refine aq (nt (sr ?_));refine mq ?_;refine aX rfl rfl rfl (lI (t:=Ti) [(.tmp 41,_)] [a2] rfl rfl dO (.cons rfl .int .nil) rfl rfl) ⟨rfl,trivial⟩ λv9=>?_;refine aq (nt ?_);refine aC (Z:=Value) (α:=(List Int)) (λj s=>[(13,.eq (.map (some z8))),(14,.eq j)]) (λj s=>[.sl j 3 Ti s,.inv z4.2 (cg k q3),.inv z8 (t6 r7)]) h (λK h=>?_) (λj s h=>?_)
    .refine sr (ja (eE [(0,.const (.int .i64 (-1)),_)] rfl HH tP Dh (jV ⟨rfl,trivial⟩) rfl) ?_);refine aX rfl rfl rfl (be rfl tP AZ) trivial λmc=>?_;refine aN rfl rfl (aI rfl jU trivial rfl rfl) ⟨rfl,rfl,trivial⟩ ?_;refine nt (ai (aD (λe c=>[(12,Pt b6),(13,.eq (.map (some z8))),(14,.eq e.1),(15,.eq (.pointer (some ⟨e.2,0,none⟩)))]) (λe c=>[.obj b6 134 (.agg (.pair (I c.1) (I c.2.1))),.sl e.1 3 Ti c.2.2,.obj e.2 134 (.agg (.pair (I (-1:Int)) (I 0))),.inv z4.2 (cg k q3),.inv z8 (t6 r7)]) (kV k r7) k (v9,mc) (a2,r5,[a2]) (λ_=>rfl) h (SE.fin [5,1,0,4,2] ⟨rfl,rfl,rfl,rfl,trivial⟩ rfl) (λn e c h=>?_)));unfold kV at h;refine ak (ak (cN ?_));refine dm ?_;refine ea 0 (ay rfl jU (s7) rfl) ?_;obtain⟨zz,J,h⟩:=aa h;refine eb 4 (bY (N:=[(.tmp 44,.eq (.map (some z8))),(.tmp 45,.agg (.pair (I c.1) (I c.2.1)))]) (sV (K:=lA) (V:=lA) (t:=(c.1,c.2.1)) (l:=r7) (λn=>.rep bS n) uB rfl Gf (0,0) uA nf (λ_ _ _ h=>nM h) (rF (am J)) (rE _) rG) λ_ _ _ hn=>⟨hn.1,(aJ (t:=bS) (x:=(c.1,c.2.1)) (.agg (.pair .int .int)) trivial rfl hn.2.1),trivial⟩) ?_;refine ea 2 (ay rfl jU (s7) rfl) ?_;refine df dS ?_;refine eg (eV (t:=bS) (x:=((-1:Int),0)) 47 rfl (.agg (.pair .int .int)) trivial rfl) ?_;refine jb (OW rfl Rt rfl) ?_;refine nt (cn h (λh=>?_) (λh=>?_))
     .refine sk (ak (ai (ab ?_)));iterate 2 refine mq ?_
      refine lo jU ?_;refine eg (eV (t:=bS) (x:=(c.1,c.2.1)) 54 rfl (.agg (.pair .int .int)) trivial rfl) ?_;obtain⟨u16,E,h⟩:=aa h;refine fr 4 ?_;refine kb (bY (N:=[(.tmp 53,.eq (.map (some z8))),(.tmp 54,.rep bS (c.1,c.2.1))]) (sV (K:=lA) (V:=lA) (t:=(c.1,c.2.1)) (l:=r7) (λn=>.rep bS n) uB rfl Gf (0,0) uA nf (λ_ _ _ h=>nM h) (rF (am E)) (rE _) rG) λ_ _ _ hn=>⟨hn.1,hn.2.1,trivial⟩) ?_;refine ja (K8 rfl UP rfl cF (λ_=>rfl) rfl rfl rfl) ?_;refine ja (bb (t:=Ti) [(.tmp 56,_)] [(nX r7 (c.1,c.2.1) (0,0)).1] rfl rfl dO (.cons rfl .int .nil) rfl rfl) ?_;obtain⟨qt,D,h⟩:=aa h;refine fr 2 ?_;refine dK rfl rfl rfl (bV rfl rfl dO (am D)) ⟨rfl,rfl,trivial⟩ λO=>?_;refine aq (aE (aO (tn (ak (sr ?_)))));refine fr 3 ?_;refine lo jU ?_;refine nt (ab (aX rfl rfl rfl (be rfl tP AZ) trivial λgw=>?_));refine aN rfl rfl (aI rfl jU trivial rfl rfl) ⟨rfl,rfl,trivial⟩ ?_;refine nt (ab (mq ?_));refine fr 4 ?_;refine lo jU ?_;refine eg (eV (t:=bS) (x:=(c.1,c.2.1)) 50 rfl (.agg (.pair .int .int)) trivial rfl) ?_;obtain⟨mw,y,h⟩:=aa h;refine fr 4 ?_;refine kb (bY (N:=[(.tmp 49,.eq (.map (some z8))),(.tmp 50,.rep bS (c.1,c.2.1))]) (sV (K:=lA) (V:=lA) (t:=(c.1,c.2.1)) (l:=r7) (λn=>.rep bS n) uB rfl Gf (0,0) uA nf (λ_ _ _ h=>nM h) (rF (am y)) (rE _) rG) λ_ _ _ hn=>⟨hn.1,hn.2.1,trivial⟩) ?_;refine fr 1 ?_;refine aN rfl rfl (aI rfl jU rfl rfl rfl) ⟨rfl,rfl,trivial⟩ ?_;refine nl (bK (gq (a:=.rep bS (nX r7 (c.1,c.2.1) (0,0))) (a':=.agg (.pair (I ((nX r7 (c.1,c.2.1) (0,0)).1)) (I ((nX r7 (c.1,c.2.1) (0,0)).2)))) (AE.trans EV (AE.agg (AE.trans Bf (AE.pair AE.int AE.int))))) ?_);exact jz ((O,gw),((nX r7 (c.1,c.2.1) (0,0)).1,(nX r7 (c.1,c.2.1) (0,0)).2,c.2.2++[(nX r7 (c.1,c.2.1) (0,0)).1])) h [0,4,2,5,1]
     .refine xa ?_;exact jz (e.1,c.2.2) h [1,3,4]
    .refine sr (mq ?_);refine fr 2 ?_;refine aN rfl rfl (HZ rfl rfl Gf) ⟨rfl,trivial⟩ ?_;refine nt (sr (mq ?_));obtain⟨Q,M,h⟩:=aa h;refine fr 1 ?_;refine ka (ax [.tmp 61] rfl rfl Ue rfl (qH k s j Q M)) ?_;refine nt (sr (mq ?_));refine aq ?_;refine cq (nt (aA ?_));refine bK (ic [6,14,61,63] ⟨rfl,rfl,rfl,rfl,trivial⟩) ?_;cases h;exact rb
def my(k:Nat)(a0:ae)(a1:Int)(r2:(Option ae)×(List Int)×Int)(q3:ae)(y7:(List Int)×Int):Nat->(Int×Int)->Option Int
 |0,_=>none
 |n+1,c=>
  if c.2 < (r2.2.1.length:Int) then((((aF r2.2.1 c.2).bind λr=>
  (me k q3 r).bind λu=>
  (aF u a1).bind λl=>
  (aF l y7.2).bind λj=>
  if a0.2.2.1≤j then((ck (c.1+1)).bind λh=>
  some h) else(some c.1)):Option (Int)).bind λs=>
  (ck (c.2+1)).bind λe=>
  my k a0 a1 r2 q3 y7 n (s,e)) else(some c.1)
def mz(k:Nat)(a0:ae)(a1:Int)(r2:(Option ae)×(List Int)×Int)(q3:ae):Nat->((List Int)×Int)->Option (List Int)
 |0,_=>none
 |n+1,y7=>
  if y7.2 < a0.1 then(((((my k a0 a1 r2 q3 y7 k (0,0)):Option (Int)).bind λc=>
  (ck ((r2.2.1.length:Int) - c)).bind λe=>
  (cL (bD (length y7.1+length [tl c e]))).bind λ_=>
  some (y7.1++[tl c e])):Option ((List Int))).bind λx9=>
  (ck (y7.2+1)).bind λh=>
  mz k a0 a1 r2 q3 n (x9,h)) else(some y7.1)
def uZ(k:Nat)(a0:ae)(a1:Int):Option (Int×Int×Int):=
 (jG k a0 ([]:(List Int)) ([]:(List Int)) [a1]).bind λr2=>
 gk r2.1 (if¬(r2.2.2=0) then(some (0,0,r2.2.2)) else(none)) (λq3=>if¬(r2.2.2=0) then(some (0,0,r2.2.2)) else(((mz k a0 a1 r2 q3 k (([]:(List Int)),0)):Option ((List Int))).bind λx5=>
 (mh k x5).bind λc=>
 if(r2.2.1.length:Int)≤c then(some (0,0,11)) else((gB k x5 c).bind λe=>
 some (e,c,0))))
theorem Aa(k:Nat)(a0:ae)(a1:Int)(r:Int×Int×Int)(h:uZ k a0 a1=some r):
 ce (dU Tryz.prog) 48 [.rep an a0,I a1] [] (λ_:Unit=>(bN [I r.1,I r.2.1,I r.2.2],[])):=by
 unfold uZ at h
 replace h:=bg h
 refine ce.of 71 Tryz.func48 rfl Tryz.ntmps48 rfl λS w0=>?_
 refine sr ?_
 refine bx λb1=>?_
 refine cq ?_
 refine cq ?_
 refine cq ?_
 refine nt ?_
 refine sr ?_
 refine lo fE ?_
 refine mq ?_
 refine ja (bb (t:=Ti) [(.tmp 18,_)] [a1] rfl rfl dO (.cons rfl .int .nil) rfl rfl) ?_
 obtain⟨r2,VA,h⟩:=aa h
 have s:=nT k a0 ([]:(List Int)) ([]:(List Int)) [a1] r2 VA
 rcases hr:r2.1 with _ |q3
 .
  rw [hr] at h s;replace h:=wB h;refine aM (Δ:=[]) (F:=_) (λ_ _ _=>ah rfl _) rfl rfl (bY (N:=[(.tmp 17,.rep an a0),(.const (.slice none 0 0),.eq (.slice none 0 0)),(.const (.slice none 0 0),.eq (.slice none 0 0)),(.tmp 19,.rep Tl [a1])]) (aW [.tmp 17,.const (.slice none 0 0),.const (.slice none 0 0),.tmp 19] rfl rfl FP rfl s) λ_ _ _ hn=>⟨hn.1,(aJ (t:=Tl) (x:=([]:(List Int))) .nil rfl rfl hn.2.1),(aJ (t:=Tl) (x:=([]:(List Int))) .nil rfl rfl hn.2.2.1),hn.2.2.2.1,trivial⟩) ⟨rfl,rfl,rfl,rfl,trivial⟩ λ_=>?_;refine mq ?_;refine xr ?_;refine xr ?_;refine xr ?_;refine aq ?_;refine aq ?_;refine aq (nt (ak (sr ?_)));refine mq ?_;refine jb (fL rfl) ?_;refine nt (cn h (λh=>?_) (λh=>?_))
  .refine sr (mq ?_);refine cq ?_;refine cq ?_;refine aq (nt (rx ?_));cases h;exact aP () [_,_,_] 0 ⟨rfl,rfl,rfl,trivial⟩ rfl
  .cases h
 .
  rw [hr] at h s;replace h:=wA h;refine aM (Δ:=[]) (F:=_) (λ_ _ _=>ah rfl _) rfl rfl (bY (N:=[(.tmp 17,.rep an a0),(.const (.slice none 0 0),.eq (.slice none 0 0)),(.const (.slice none 0 0),.eq (.slice none 0 0)),(.tmp 19,.rep Tl [a1])]) (aW [.tmp 17,.const (.slice none 0 0),.const (.slice none 0 0),.tmp 19] rfl rfl FP rfl s) λ_ _ _ hn=>⟨hn.1,(aJ (t:=Tl) (x:=([]:(List Int))) .nil rfl rfl hn.2.1),(aJ (t:=Tl) (x:=([]:(List Int))) .nil rfl rfl hn.2.2.1),hn.2.2.2.1,trivial⟩) ⟨rfl,rfl,rfl,rfl,trivial⟩ λz4=>?_;refine mq ?_;refine xr ?_;refine xr ?_;refine xr ?_;refine aq ?_;refine aq ?_;refine aq (nt (ak (sr ?_)));refine mq ?_;refine jb (fL rfl) ?_;refine nt (cn h (λh=>?_) (λh=>?_))
  .refine sr (mq ?_);refine cq ?_;refine cq ?_;refine aq (nt (rx ?_));cases h;exact aP () [_,_,_] 0 ⟨rfl,rfl,rfl,trivial⟩ rfl
  .refine sk (sr (cq (nt ?_)));refine aC (Z:=Value) (α:=(List Int)) (λz6 x5=>[(8,.rep (.slice (.int .u8)) r2.2.1),(10,.eq z6)]) (λz6 x5=>[.sl z6 3 Ti x5,.inv z4.2 (cg k q3)]) h (λK h=>?_) (λz6 x5 h=>?_)
   .refine sr (fl gG ?_);refine fr 2 ?_;refine lo cF ?_;refine fH rfl ?_;refine nt (ai (f5 (SE.nil 3 Ti) ?_));refine aD (λz8 y7=>[(1,I a1),(2,Pt b1),(7,.eq (.pointer (some ⟨z4.1,0,none⟩))),(8,.rep (.slice (.int .u8)) r2.2.1),(10,.eq z8),(28,I a0.1),(29,I y7.2)]) (λz8 y7=>[.obj b1 28 (.rep an a0),.obj z4.1 124 (aU q3 z4.2),.sl z8 3 Ti y7.1,.inv z4.2 (cg k q3)]) (mz k a0 a1 r2 q3) k (.slice none 0 0) (([]:(List Int)),0) (λ_=>rfl) h (SE.fin [1,2,0,3] ⟨rfl,rfl,rfl,rfl,rfl,rfl,rfl,trivial⟩ rfl) (λn z8 y7 h=>?_);unfold mz at h;refine sr (jb (bo rfl) ?_);refine nt (ak (ci h (λh=>?_) (λh=>?_)))
    .refine sk (aC (Z:=Value) (α:=(List Int)) (λe x9=>[(1,I a1),(2,Pt b1),(7,.eq (.pointer (some ⟨z4.1,0,none⟩))),(8,.rep (.slice (.int .u8)) r2.2.1),(10,.eq e),(28,I a0.1),(29,I y7.2)]) (λe x9=>[.obj b1 28 (.rep an a0),.obj z4.1 124 (aU q3 z4.2),.sl e 3 Ti x9,.inv z4.2 (cg k q3)]) h (λK h=>?_) (λe x9 h=>?_))
     .refine ai (sr (mq ?_));refine aq (nt (sr ?_));refine cq (nt ?_);refine aC (Z:=Unit) (α:=Int) (λE j=>[(1,I a1),(2,Pt b1),(7,.eq (.pointer (some ⟨z4.1,0,none⟩))),(8,.rep (.slice (.int .u8)) r2.2.1),(10,.eq z8),(12,I j),(28,I a0.1),(29,I y7.2)]) (λE j=>[.obj b1 28 (.rep an a0),.obj z4.1 124 (aU q3 z4.2),.sl z8 3 Ti y7.1,.inv z4.2 (cg k q3)]) h (λK h=>?_) (λE j h=>?_)
      .refine sr (mq ?_);refine ol Bo ?_;refine fH rfl ?_;refine nt (ai (aD (λD c=>[(1,I a1),(2,Pt b1),(7,.eq (.pointer (some ⟨z4.1,0,none⟩))),(8,.rep (.slice (.int .u8)) r2.2.1),(10,.eq z8),(11,I y7.2),(12,I c.1),(28,I a0.1),(29,I y7.2),(32,.rep (.slice (.int .u8)) r2.2.1),(33,I (r2.2.1.length:Int)),(34,I c.2)]) (λD c=>[.obj b1 28 (.rep an a0),.obj z4.1 124 (aU q3 z4.2),.sl z8 3 Ti y7.1,.inv z4.2 (cg k q3)]) (my k a0 a1 r2 q3 y7) k () (0,0) (λ_=>rfl) h (SE.fin [0,1,2,3] ⟨rfl,rfl,rfl,rfl,rfl,rfl,rfl,rfl,rfl,rfl,rfl,rfl,trivial⟩ rfl) (λn D c h=>?_)));unfold my at h;refine sr (jb (bo rfl) ?_);refine nt (ak (ci h (λh=>?_) (λh=>?_)))
       .refine sk (aC (Z:=Unit) (α:=Int) (λy l=>[(1,I a1),(2,Pt b1),(7,.eq (.pointer (some ⟨z4.1,0,none⟩))),(8,.rep (.slice (.int .u8)) r2.2.1),(10,.eq z8),(11,I y7.2),(12,I l),(28,I a0.1),(29,I y7.2),(32,.rep (.slice (.int .u8)) r2.2.1),(33,I (r2.2.1.length:Int)),(34,I c.2)]) (λy l=>[.obj b1 28 (.rep an a0),.obj z4.1 124 (aU q3 z4.2),.sl z8 3 Ti y7.1,.inv z4.2 (cg k q3)]) h (λK h=>?_) (λy l h=>?_))
        .refine ai (sr ?_);obtain⟨Vw,gw,h⟩:=aa h;refine jb (aK (t:=(.int .u8)) rfl Bo qE gw) ?_;refine ja (ao (t:=(.int .u8)) rfl qE rfl) ?_;refine aq (nt (ak ?_));refine cN ?_;refine dm ?_;refine dm ?_;obtain⟨Vz,zz,h⟩:=aa h;refine Qe 1 3 rfl rfl (by kernel_rfl) rfl rfl rfl (aW [.tmp 38,.tmp 39] rfl rfl FN rfl (pU k q3 z4.1 z4.2 Vw Vz zz)) ⟨rfl,rfl,trivial⟩ ?_;refine dm ?_;obtain⟨VC,Y,h⟩:=aa h;refine db (o5 (t:=Tr) rfl wE fG rfl rfl (s7) Y) ?_;refine dm ?_;obtain⟨VB,X,h⟩:=aa h;refine db (o5 (t:=Ti) rfl ru cF rfl rfl (λ_=>rfl) X) ?_;refine da (aG rfl yw) ?_;refine ea 0 (ay rfl cF o8 rfl) ?_;refine df dS ?_;refine jb (jX rfl) ?_;refine nt (ci h (λh=>?_) (λh=>?_))
         .refine ab (mq ?_);obtain⟨Vv,U,h⟩:=aa h;refine jb (bj rfl U) ?_;refine aq (aE (bn ?_));exact jz ((),Vv) h [0,1,2,3]
         .refine bi (bn ?_);exact jz ((),c.1) h [0,1,2,3]
        .refine ab ?_;obtain⟨Vu,Q,h⟩:=aa h;refine jb (bj rfl Q) ?_;refine mq (nl ?_);exact jz ((),(l,Vu)) h [0,1,2,3]
       .refine xa ?_;exact jz ((),c.1) h [0,1,2,3]
      .refine ab ?_;iterate 3 refine mq ?_
       refine ol Bo ?_;refine mq ?_;obtain⟨J,O,h⟩:=aa h;refine jb (dL rfl O) ?_;refine jb (HV rfl rfl) ?_;refine ja (bb (t:=Ti) [(.tmp 57,_)] [tl j J] rfl rfl dO (.cons rfl .int .nil) rfl rfl) ?_;obtain⟨VD,mc,h⟩:=aa h;refine fr 2 ?_;refine dK rfl rfl rfl (bV rfl rfl dO (am mc)) ⟨rfl,rfl,trivial⟩ λVx=>?_;refine aq (aE (bn ?_));exact jz (Vx,y7.1++[tl j J]) h [1,2,0,3]
     .refine ab ?_;obtain⟨Vt,M,h⟩:=aa h;refine jb (bj rfl M) ?_;refine mq (nl ?_);exact jz (e,(x9,Vt)) h [0,1,2,3]
    .refine xa ?_;exact jz (z8,y7.1) h [2,3]
   .refine sr (mq ?_);obtain⟨u,qt,h⟩:=aa h;refine ka (iW (N:=[(.tmp 61,.eq z6)]) (ax [.tmp 61] rfl rfl Rx rfl (oR k x5 u qt)) (λ_ _ _ hv hn=>⟨(lend hn.1 hv),trivial⟩) (λ_=>⟨rfl,nA⟩)) ?_;refine aq (nt (ak (sr ?_)));iterate 2 refine mq ?_
    refine ol Bo ?_;refine jb (jX rfl) ?_;refine nt (ci h (λh=>?_) (λh=>?_))
    .refine sr (cq ?_);refine cq ?_;refine cq (nt (rx ?_));cases h;exact aP () [_,_,_] 0 ⟨rfl,rfl,rfl,trivial⟩ rfl
    .refine sk (sr ?_);iterate 2 refine mq ?_
     obtain⟨Vy,mw,h⟩:=aa h;refine kb (iW (N:=[(.tmp 67,.eq z6),(.tmp 68,I u)]) (ax [.tmp 67,.tmp 68] rfl rfl Rw rfl (ni k x5 u Vy mw)) (λ_ _ _ hv hn=>⟨(lend hn.1 hv),hn.2.1,trivial⟩) (λ_=>⟨rfl,nA⟩)) ?_;refine mq ?_;refine aq ?_;refine aq ?_;refine cq (nt (aA ?_));cases h;exact aP () [_,_,_] 0 ⟨rfl,rfl,rfl,trivial⟩ rfl
def rY(k:Nat):Option Bool:=
 (jd k ([]:(List bp))).bind λr1=>
 (hJ k r1 [0]).bind λr2=>
 (jd k ([]:(List bp))).bind λr3=>
 (iU k r3).bind λr4=>
 (jd k ([]:(List bp))).bind λr5=>
 (ta k r5 2).bind λr6=>
 (jd k ([]:(List bp))).bind λr8=>
 (tc k r8 [0] 3).bind λr9=>
 (jd k ([]:(List bp))).bind λu=>
 (uZ k u 2).bind λc=>
 (jd k ([]:(List bp))).bind λs=>
 (jH k s 2).bind λe=>
 ((if r2.2=0 then(if r4.2=0 then(if r6.2=0 then(if r9.2=0 then(if c.2.2=0 then(if e.2=0 then(if r6.1=(1,3) then(if c.1=2 then(if c.2.1=2 then((jS k r2.1 [[1,(-1:Int),(-1:Int),(-1:Int)],[2,0,(-1:Int),(-1:Int)],[3,1,(-1:Int),(-1:Int)],[3,2,0,(-1:Int)],[(-1:Int),3,1,0]]).bind λr=>
 if r=true then((jS k r4.1 [[0],[0,1],[1]]).bind λn=>
 if n=true then((fC k r9.1 [0,1,3]).bind λl=>
 if l=true then((fC k e.1 [1,2]).bind λj=>
 some j) else(some false)) else(some false)) else(some false)) else(some false)) else(some false)) else(some false)) else(some false)) else(some false)) else(some false)) else(some false)) else(some false)) else(some false)):Option (Bool)).bind λh=>
 some h
theorem An(k:Nat)(r:Bool)(h:rY k=some r):
 ce (dU Tryz.prog) 15 [] [] (λ_:Unit=>(bN [.eq (.bool r)],[])):=by
 unfold rY at h
 replace h:=bg h
 refine ce.of 110 Tryz.func15 rfl Tryz.ntmps15 rfl λS w0=>?_
 refine sr ?_
 refine cq ?_
 refine nt ?_
 refine sr ?_
 obtain⟨r1,Vz,h⟩:=aa h
 have VH:=ij k ([]:(List bp)) r1 Vz
 refine ja (bY (N:=[(.const (.slice none 0 0),.eq (.slice none 0 0))]) (ax [.const (.slice none 0 0)] rfl rfl FO rfl VH) λ_ _ _ hn=>⟨(aJ (t:=(.slice aR)) (x:=([]:(List bp))) .nil rfl rfl hn.1),trivial⟩) ?_
 refine ja (bb (t:=Ti) [(.const (.int .i64 (0)),_)] [0] rfl rfl dO (.cons rfl .int .nil) rfl rfl) ?_
 obtain⟨r2,Vy,h⟩:=aa h
 have VG:=mQ k r1 [0] r2 Vy
 refine jb (aW [.tmp 15,.tmp 16] rfl rfl PI rfl VG) ?_
 refine mq ?_
 refine xr ?_
 refine xr ?_
 refine aq ?_
 refine aq ?_
 refine nt ?_
 refine sr ?_
 obtain⟨r3,Vx,h⟩:=aa h
 have VF:=ij k ([]:(List bp)) r3 Vx
 refine ja (bY (N:=[(.const (.slice none 0 0),.eq (.slice none 0 0))]) (ax [.const (.slice none 0 0)] rfl rfl FO rfl VF) λ_ _ _ hn=>⟨(aJ (t:=(.slice aR)) (x:=([]:(List bp))) .nil rfl rfl hn.1),trivial⟩) ?_
 obtain⟨r4,Vw,h⟩:=aa h
 have VE:=qy k r3 r4 Vw
 refine ja (aW [.tmp 21] rfl rfl U6 rfl VE) ?_
 refine mq ?_
 refine xr ?_
 refine xr ?_
 refine aq ?_
 refine aq ?_
 refine nt ?_
 refine sr ?_
 obtain⟨r5,Vv,h⟩:=aa h
 have VD:=ij k ([]:(List bp)) r5 Vv
 refine ja (bY (N:=[(.const (.slice none 0 0),.eq (.slice none 0 0))]) (ax [.const (.slice none 0 0)] rfl rfl FO rfl VD) λ_ _ _ hn=>⟨(aJ (t:=(.slice aR)) (x:=([]:(List bp))) .nil rfl rfl hn.1),trivial⟩) ?_
 obtain⟨r6,Vu,h⟩:=aa h
 have VC:=yh k r5 2 r6 Vu
 refine jb (aW [.tmp 26,.const (.int .i64 (2))] rfl rfl Uu rfl VC) ?_
 refine mq ?_
 refine xr ?_
 refine xr ?_
 refine aX rfl rfl rfl (be rfl Bq RZ) trivial λb7=>?_
 refine aN rfl rfl (aI rfl wh rfl rfl rfl) ⟨rfl,rfl,trivial⟩ ?_
 refine aq ?_
 refine nt ?_
 refine sr ?_
 obtain⟨r8,Vt,h⟩:=aa h
 have VB:=ij k ([]:(List bp)) r8 Vt
 refine ja (bY (N:=[(.const (.slice none 0 0),.eq (.slice none 0 0))]) (ax [.const (.slice none 0 0)] rfl rfl FO rfl VB) λ_ _ _ hn=>⟨(aJ (t:=(.slice aR)) (x:=([]:(List bp))) .nil rfl rfl hn.1),trivial⟩) ?_
 refine ja (bb (t:=Ti) [(.const (.int .i64 (0)),_)] [0] rfl rfl dO (.cons rfl .int .nil) rfl rfl) ?_
 obtain⟨r9,zz,h⟩:=aa h
 have VA:=yj k r8 [0] 3 r9 zz
 refine jc (aW [.tmp 31,.tmp 32,.const (.int .i64 (3))] rfl rfl Ut rfl VA) ?_
 refine mq ?_
 refine xr ?_
 refine xr ?_
 refine aq ?_
 refine aq ?_
 refine nt ?_
 refine sr ?_
 obtain⟨u,O,h⟩:=aa h
 have Y:=ij k ([]:(List bp)) u O
 refine ja (bY (N:=[(.const (.slice none 0 0),.eq (.slice none 0 0))]) (ax [.const (.slice none 0 0)] rfl rfl FO rfl Y) λ_ _ _ hn=>⟨(aJ (t:=(.slice aR)) (x:=([]:(List bp))) .nil rfl rfl hn.1),trivial⟩) ?_
 obtain⟨qt,M,h⟩:=aa h
 have X:=Aa k u 2 qt M
 refine jb (aW [.tmp 37,.const (.int .i64 (2))] rfl rfl Us rfl X) ?_
 refine mq ?_
 refine xr ?_
 refine xr ?_
 refine xr ?_
 refine aq ?_
 refine aq ?_
 refine aq ?_
 refine nt ?_
 refine sr ?_
 obtain⟨n,J,h⟩:=aa h
 have U:=ij k ([]:(List bp)) n J
 refine ja (bY (N:=[(.const (.slice none 0 0),.eq (.slice none 0 0))]) (ax [.const (.slice none 0 0)] rfl rfl FO rfl U) λ_ _ _ hn=>⟨(aJ (t:=(.slice aR)) (x:=([]:(List bp))) .nil rfl rfl hn.1),trivial⟩) ?_
 obtain⟨l,I,h⟩:=aa h
 have Q:=qx k n 2 l I
 refine jb (aW [.tmp 43,.const (.int .i64 (2))] rfl rfl RS rfl Q) ?_
 refine mq ?_
 refine xr ?_
 refine xr ?_
 refine aq ?_
 refine aq ?_
 refine nt ?_
 refine aC (Z:=Unit) (α:=Bool) (λe c=>[(0,.eq (.bool c))]) (λe c=>[]) h (λK h=>?_) (λe c h=>?_)
 .
  refine ab (mq ?_);refine jb (jm rfl) ?_;refine mq ?_;refine cj (s:=49) rfl (λhb=>?_) (λhb=>?_)
  .replace h:=eQ (sG hb) h;refine gm ?_;refine gb (jm rfl) ?_;refine pt ?_;refine mq ?_;refine cj (s:=53) rfl (λhb=>?_) (λhb=>?_)
   .replace h:=eQ (sG hb) h;refine gm ?_;refine gb (jm rfl) ?_;refine pt ?_;refine mq ?_;refine cj (s:=57) rfl (λhb=>?_) (λhb=>?_)
    .replace h:=eQ (sG hb) h;refine gm ?_;refine gb (jm rfl) ?_;refine pt ?_;refine mq ?_;refine cj (s:=61) rfl (λhb=>?_) (λhb=>?_)
     .replace h:=eQ (sG hb) h;refine gm ?_;refine gb (jm rfl) ?_;refine pt ?_;refine mq ?_;refine cj (s:=65) rfl (λhb=>?_) (λhb=>?_)
      .replace h:=eQ (sG hb) h;refine gm ?_;refine gb (jm rfl) ?_;refine pt ?_;refine mq ?_;refine cj (s:=69) rfl (λhb=>?_) (λhb=>?_)
       .replace h:=eQ (sG hb) h;refine mY rfl rfl rfl rfl rfl rfl (ay rfl wh (s7) rfl) ⟨rfl,trivial⟩ ?_;refine gb (eE [(0,.const (.int .i64 (1)),_),(1,.const (.int .i64 (3)),_)] rfl HG Bq AY (jV ⟨rfl,rfl,trivial⟩) rfl) ?_;refine eg (eV (t:=bS) (x:=(1,3)) 71 rfl (.agg (.pair .int .int)) trivial rfl) ?_;refine gb (OZ rfl T8 rfl) ?_;refine pt ?_;refine mq ?_;refine cj (s:=74) rfl (λhb=>?_) (λhb=>?_)
        .replace h:=eQ (sG hb) h;refine gm ?_;refine gb (jm rfl) ?_;refine pt ?_;refine mq ?_;refine cj (s:=78) rfl (λhb=>?_) (λhb=>?_)
         .replace h:=eQ (sG hb) h;refine gm ?_;refine gb (jm rfl) ?_;refine pt ?_;refine mq ?_;refine cj (s:=82) rfl (λhb=>?_) (λhb=>?_)
          .replace h:=eQ (sG hb) h;refine gm ?_;refine lX rfl rfl rfl rfl rfl rfl (bb (t:=Ti) [(.const (.int .i64 (1)),_),(.const (.int .i64 (-1)),_),(.const (.int .i64 (-1)),_),(.const (.int .i64 (-1)),_)] [1,(-1:Int),(-1:Int),(-1:Int)] rfl rfl dO (.cons rfl .int (.cons rfl .int (.cons rfl .int (.cons rfl .int .nil)))) rfl rfl) ⟨rfl,rfl,rfl,rfl,trivial⟩ ?_;refine lX rfl rfl rfl rfl rfl rfl (bb (t:=Ti) [(.const (.int .i64 (2)),_),(.const (.int .i64 (0)),_),(.const (.int .i64 (-1)),_),(.const (.int .i64 (-1)),_)] [2,0,(-1:Int),(-1:Int)] rfl rfl dO (.cons rfl .int (.cons rfl .int (.cons rfl .int (.cons rfl .int .nil)))) rfl rfl) ⟨rfl,rfl,rfl,rfl,trivial⟩ ?_;refine lX rfl rfl rfl rfl rfl rfl (bb (t:=Ti) [(.const (.int .i64 (3)),_),(.const (.int .i64 (1)),_),(.const (.int .i64 (-1)),_),(.const (.int .i64 (-1)),_)] [3,1,(-1:Int),(-1:Int)] rfl rfl dO (.cons rfl .int (.cons rfl .int (.cons rfl .int (.cons rfl .int .nil)))) rfl rfl) ⟨rfl,rfl,rfl,rfl,trivial⟩ ?_;refine lX rfl rfl rfl rfl rfl rfl (bb (t:=Ti) [(.const (.int .i64 (3)),_),(.const (.int .i64 (2)),_),(.const (.int .i64 (0)),_),(.const (.int .i64 (-1)),_)] [3,2,0,(-1:Int)] rfl rfl dO (.cons rfl .int (.cons rfl .int (.cons rfl .int (.cons rfl .int .nil)))) rfl rfl) ⟨rfl,rfl,rfl,rfl,trivial⟩ ?_;refine lX rfl rfl rfl rfl rfl rfl (bb (t:=Ti) [(.const (.int .i64 (-1)),_),(.const (.int .i64 (3)),_),(.const (.int .i64 (1)),_),(.const (.int .i64 (0)),_)] [(-1:Int),3,1,0] rfl rfl dO (.cons rfl .int (.cons rfl .int (.cons rfl .int (.cons rfl .int .nil)))) rfl rfl) ⟨rfl,rfl,rfl,rfl,trivial⟩ ?_;refine lX rfl rfl rfl rfl rfl rfl (bb (t:=Tl) [(.tmp 84,_),(.tmp 85,_),(.tmp 86,_),(.tmp 87,_),(.tmp 88,_)] [[1,(-1:Int),(-1:Int),(-1:Int)],[2,0,(-1:Int),(-1:Int)],[3,1,(-1:Int),(-1:Int)],[3,2,0,(-1:Int)],[(-1:Int),3,1,0]] rfl rfl l9 (.cons rfl .rep (.cons rfl .rep (.cons rfl .rep (.cons rfl .rep (.cons rfl .rep .nil))))) rfl rfl) ⟨rfl,rfl,rfl,rfl,rfl,trivial⟩ ?_;obtain⟨mw,F,h⟩:=aa h;refine gb (ax [.tmp 83,.tmp 89] rfl rfl RJ rfl (ny k r2.1 [[1,(-1:Int),(-1:Int),(-1:Int)],[2,0,(-1:Int),(-1:Int)],[3,1,(-1:Int),(-1:Int)],[3,2,0,(-1:Int)],[(-1:Int),3,1,0]] mw F)) ?_;refine pt ?_;refine mq ?_;refine cj (s:=92) rfl (λhb=>?_) (λhb=>?_)
           .replace h:=eQ (NG hb) h;refine gm ?_;refine ga (bb (t:=Ti) [(.const (.int .i64 (0)),_)] [0] rfl rfl dO (.cons rfl .int .nil) rfl rfl) ?_;refine gb (bb (t:=Ti) [(.const (.int .i64 (0)),_),(.const (.int .i64 (1)),_)] [0,1] rfl rfl dO (.cons rfl .int (.cons rfl .int .nil)) rfl rfl) ?_;refine ga (bb (t:=Ti) [(.const (.int .i64 (1)),_)] [1] rfl rfl dO (.cons rfl .int .nil) rfl rfl) ?_;refine gc (bb (t:=Tl) [(.tmp 94,_),(.tmp 95,_),(.tmp 96,_)] [[0],[0,1],[1]] rfl rfl l9 (.cons rfl .rep (.cons rfl .rep (.cons rfl .rep .nil))) rfl rfl) ?_;obtain⟨mc,E,h⟩:=aa h;refine gb (ax [.tmp 93,.tmp 97] rfl rfl RJ rfl (ny k r4.1 [[0],[0,1],[1]] mc E)) ?_;refine pt ?_;refine mq ?_;refine cj (s:=100) rfl (λhb=>?_) (λhb=>?_)
            .replace h:=eQ (NG hb) h;refine gm ?_;refine gc (bb (t:=Ti) [(.const (.int .i64 (0)),_),(.const (.int .i64 (1)),_),(.const (.int .i64 (3)),_)] [0,1,3] rfl rfl dO (.cons rfl .int (.cons rfl .int (.cons rfl .int .nil))) rfl rfl) ?_;obtain⟨gw,D,h⟩:=aa h;refine gb (ax [.tmp 101,.tmp 102] rfl rfl L9 rfl (iQ k r9.1 [0,1,3] gw D)) ?_;refine pt ?_;refine mq ?_;refine cj (s:=105) rfl (λhb=>?_) (λhb=>?_)
             .replace h:=eQ (NG hb) h;refine gm ?_;refine gb (bb (t:=Ti) [(.const (.int .i64 (1)),_),(.const (.int .i64 (2)),_)] [1,2] rfl rfl dO (.cons rfl .int (.cons rfl .int .nil)) rfl rfl) ?_;obtain⟨j,y,h⟩:=aa h;refine gb (ax [.tmp 106,.tmp 107] rfl rfl L9 rfl (iQ k l.1 [1,2] j y)) ?_;refine pt ?_;refine aq (nl ?_);exact jz ((),j) h []
             .replace h:=cQ (NJ hb) h;iterate 3 refine gn ?_
              refine pf ?_;refine aq (nl ?_);exact jz ((),false) h []
            .replace h:=cQ (NJ hb) h;iterate 3 refine gn ?_
             refine pf ?_;refine mq ?_;iterate 3 refine gn ?_
             refine pf ?_;refine aq (nl ?_);exact jz ((),false) h []
           .replace h:=cQ (NJ hb) h;iterate 6 refine gn ?_
            refine pf ?_;refine mq ?_;iterate 3 refine gn ?_
            refine pf ?_;refine mq ?_;iterate 3 refine gn ?_
            refine pf ?_;refine aq (nl ?_);exact jz ((),false) h []
          .replace h:=cQ (sH hb) h;iterate 8 refine gn ?_
           refine pf ?_;refine mq ?_;iterate 6 refine gn ?_
           refine pf ?_;refine mq ?_;iterate 3 refine gn ?_
           refine pf ?_;refine mq ?_;iterate 3 refine gn ?_
           refine pf ?_;refine aq (nl ?_);exact jz ((),false) h []
         .replace h:=cQ (sH hb) h;iterate 2 refine gn ?_
          refine pf ?_;refine mq ?_;iterate 8 refine gn ?_
          refine pf ?_;refine mq ?_;iterate 6 refine gn ?_
          refine pf ?_;refine mq ?_;iterate 3 refine gn ?_
          refine pf ?_;refine mq ?_;iterate 3 refine gn ?_
          refine pf ?_;refine aq (nl ?_);exact jz ((),false) h []
        .replace h:=cQ (sH hb) h;iterate 2 refine gn ?_
         refine pf ?_;refine mq ?_;iterate 2 refine gn ?_
         refine pf ?_;refine mq ?_;iterate 8 refine gn ?_
         refine pf ?_;refine mq ?_;iterate 6 refine gn ?_
         refine pf ?_;refine mq ?_;iterate 3 refine gn ?_
         refine pf ?_;refine mq ?_;iterate 3 refine gn ?_
         refine pf ?_;refine aq (nl ?_);exact jz ((),false) h []
       .replace h:=cQ (sH hb) h;iterate 3 refine gn ?_
        refine pf ?_;refine mq ?_;iterate 2 refine gn ?_
        refine pf ?_;refine mq ?_;iterate 2 refine gn ?_
        refine pf ?_;refine mq ?_;iterate 8 refine gn ?_
        refine pf ?_;refine mq ?_;iterate 6 refine gn ?_
        refine pf ?_;refine mq ?_;iterate 3 refine gn ?_
        refine pf ?_;refine mq ?_;iterate 3 refine gn ?_
        refine pf ?_;refine aq (nl ?_);exact jz ((),false) h []
      .replace h:=cQ (sH hb) h;iterate 2 refine gn ?_
       refine pf ?_;refine mq ?_;iterate 3 refine gn ?_
       refine pf ?_;refine mq ?_;iterate 2 refine gn ?_
       refine pf ?_;refine mq ?_;iterate 2 refine gn ?_
       refine pf ?_;refine mq ?_;iterate 8 refine gn ?_
       refine pf ?_;refine mq ?_;iterate 6 refine gn ?_
       refine pf ?_;refine mq ?_;iterate 3 refine gn ?_
       refine pf ?_;refine mq ?_;iterate 3 refine gn ?_
       refine pf ?_;refine aq (nl ?_);exact jz ((),false) h []
     .replace h:=cQ (sH hb) h;iterate 2 refine gn ?_
      refine pf ?_;refine mq ?_;iterate 2 refine gn ?_
      refine pf ?_;refine mq ?_;iterate 3 refine gn ?_
      refine pf ?_;refine mq ?_;iterate 2 refine gn ?_
      refine pf ?_;refine mq ?_;iterate 2 refine gn ?_
      refine pf ?_;refine mq ?_;iterate 8 refine gn ?_
      refine pf ?_;refine mq ?_;iterate 6 refine gn ?_
      refine pf ?_;refine mq ?_;iterate 3 refine gn ?_
      refine pf ?_;refine mq ?_;iterate 3 refine gn ?_
      refine pf ?_;refine aq (nl ?_);exact jz ((),false) h []
    .replace h:=cQ (sH hb) h;iterate 2 refine gn ?_
     refine pf ?_;refine mq ?_;iterate 2 refine gn ?_
     refine pf ?_;refine mq ?_;iterate 2 refine gn ?_
     refine pf ?_;refine mq ?_;iterate 3 refine gn ?_
     refine pf ?_;refine mq ?_;iterate 2 refine gn ?_
     refine pf ?_;refine mq ?_;iterate 2 refine gn ?_
     refine pf ?_;refine mq ?_;iterate 8 refine gn ?_
     refine pf ?_;refine mq ?_;iterate 6 refine gn ?_
     refine pf ?_;refine mq ?_;iterate 3 refine gn ?_
     refine pf ?_;refine mq ?_;iterate 3 refine gn ?_
     refine pf ?_;refine aq (nl ?_);exact jz ((),false) h []
   .replace h:=cQ (sH hb) h;iterate 2 refine gn ?_
    refine pf ?_;refine mq ?_;iterate 2 refine gn ?_
    refine pf ?_;refine mq ?_;iterate 2 refine gn ?_
    refine pf ?_;refine mq ?_;iterate 2 refine gn ?_
    refine pf ?_;refine mq ?_;iterate 3 refine gn ?_
    refine pf ?_;refine mq ?_;iterate 2 refine gn ?_
    refine pf ?_;refine mq ?_;iterate 2 refine gn ?_
    refine pf ?_;refine mq ?_;iterate 8 refine gn ?_
    refine pf ?_;refine mq ?_;iterate 6 refine gn ?_
    refine pf ?_;refine mq ?_;iterate 3 refine gn ?_
    refine pf ?_;refine mq ?_;iterate 3 refine gn ?_
    refine pf ?_;refine aq (nl ?_);exact jz ((),false) h []
  .replace h:=cQ (sH hb) h;iterate 2 refine gn ?_
   refine pf ?_;refine mq ?_;iterate 2 refine gn ?_
   refine pf ?_;refine mq ?_;iterate 2 refine gn ?_
   refine pf ?_;refine mq ?_;iterate 2 refine gn ?_
   refine pf ?_;refine mq ?_;iterate 2 refine gn ?_
   refine pf ?_;refine mq ?_;iterate 3 refine gn ?_
   refine pf ?_;refine mq ?_;iterate 2 refine gn ?_
   refine pf ?_;refine mq ?_;iterate 2 refine gn ?_
   refine pf ?_;refine mq ?_;iterate 8 refine gn ?_
   refine pf ?_;refine mq ?_;iterate 6 refine gn ?_
   refine pf ?_;refine mq ?_;iterate 3 refine gn ?_
   refine pf ?_;refine mq ?_;iterate 3 refine gn ?_
   refine pf ?_;refine aq (nl ?_);exact jz ((),false) h []
 .
  refine aA ?_;cases h;exact ra
def c8(k:Nat)(r5:(List (List Int))×Int)(r9:Int×bJ)(h:ae):Nat->(Bool×Int)->Option (Except Bool Bool)
 |0,_=>none
 |n+1,c=>
  ((if c.2 < (r5.1.length:Int) then(some c.1) else(some false)):Option (Bool)).bind λr=>
  if r=true then((aF r5.1 c.2).bind λl=>
  (j8 k h l r9.1).bind λe=>
  if¬(e.2=true) then(some (.error false)) else((ck (c.2+1)).bind λj=>
  c8 k r5 r9 h n (!e.1,j))) else(some (.ok c.1))
def c9(k:Nat)(r3:ae×(List Int)×(List (List Int))×Bool×bJ)(r5:(List (List Int))×Int)(r9:Int×bJ)(j:(List Int)×Int)(h:(List (List Int))):Nat->Int->Option (Except Bool Unit)
 |0,_=>none
 |n+1,c=>
  if c < (h.length:Int) then(bE (α:=Unit) ((aF h c).bind λx=>
  (lF k r3.1 r9.1 x).bind λE=>
  bE (α:=Bool) (c8 k r5 r9 E k (true,0)) (λe=>some (.error e)) λu=>
  if u=true then(((if j.2=0 then((aF h c).bind λr=>
  (fC k j.1 r).bind λD=>
  if D=true then((rY k).bind λy=>
  some y) else(some false)) else(some false)):Option (Bool)).bind λs=>
  some (.error s)) else(some (.ok ()))) (λe=>some (.error e)) λ_=>
  (ck (c+1)).bind λl=>
  c9 k r3 r5 r9 j h n l) else(some (.ok ()))
def jt(k:Nat)(a0:(List Int)):Option Bool:=
 (mA k a0).bind λr1=>
 (nu k (r1.1,r1.2.1,r1.2.2)).bind λr3=>
 (iU k r3.1).bind λr5=>
 ((if¬(r3.2.2.2.1=true) then(some true) else(if¬(r5.2=0) then(some true) else(some (decide (32 < (r5.1.length:Int)))))):Option (Bool)).bind λx6=>
 if x6=true then(some false) else((ck ((r3.1.2.2.2.2.1.length:Int) - 1)).bind λx8=>
 (bZ k (r3.2.2.2.2.1,r3.2.2.2.2.2.1,r3.2.2.2.2.2.2) x8).bind λr9=>
 (jH k r3.1 r9.1).bind λe=>
 (nv k r3.1.1).bind λc=>
 bE (α:=Unit) (c9 k r3 r5 r9 e c k 0) (some) λ_=>
 some false)
theorem rZ(k:Nat)(a0:(List Int))(r:Bool)(h:jt k a0=some r):
 ce (dU Tryz.prog) 3 [.rep Tl a0] [] (λ_:Unit=>(bN [.eq (.bool r)],[])):=by
 unfold jt at h
 replace h:=bg h
 refine ce.of 110 Tryz.func3 rfl Tryz.ntmps3 rfl λS w0=>?_
 refine sr ?_
 refine cq ?_
 refine nt ?_
 refine sr ?_
 refine mq ?_
 obtain⟨r1,VX,h⟩:=aa h
 have V0:=vh k a0 r1 VX
 refine aX rfl rfl rfl (ax [.tmp 20] rfl rfl Vm rfl V0) ⟨rfl,trivial⟩ λb2=>?_
 refine aq ?_
 refine nt ?_
 refine sr ?_
 refine mq ?_
 obtain⟨r3,VV,h⟩:=aa h
 have VZ:=Am k (r1.1,r1.2.1,r1.2.2) b2 r3 VV
 refine ka (aW [.tmp 23] rfl rfl Vl rfl VZ) ?_
 refine mq ?_
 refine xr ?_
 refine xr ?_
 refine xr ?_
 refine xr ?_
 refine aX rfl rfl rfl (be rfl uw yN) trivial λb4=>?_
 refine aN rfl rfl (aI rfl fE rfl rfl rfl) ⟨rfl,rfl,trivial⟩ ?_
 refine aq ?_
 refine aq ?_
 refine aq ?_
 refine nt ?_
 refine sr ?_
 refine lo fE ?_
 obtain⟨r5,VU,h⟩:=aa h
 have VY:=qy k r3.1 r5 VU
 refine ja (aW [.tmp 30] rfl rfl U6 rfl VY) ?_
 refine mq ?_
 refine xr ?_
 refine xr ?_
 refine aq ?_
 refine aq ?_
 refine nt ?_
 refine ak ?_
 refine aC (Z:=Unit) (α:=Bool) (λz7 x6=>[(3,Pt b2),(4,Pt b4),(8,.rep (.slice Tl) r5.1),(44,.eq (.bool x6))]) (λz7 x6=>[.obj b2 60 (.agg (.pair (.rep Tl r3.2.2.2.2.1) (.pair (I r3.2.2.2.2.2.1) (.eq (.int .u64 r3.2.2.2.2.2.2))))),.obj b4 28 (.rep an r3.1)]) h (λK h=>?_) (λz7 x6 h=>?_)
 .
  refine ab (mq ?_);refine ja (gZ rfl) ?_;refine mq ?_;refine cj (s:=36) rfl (λhb=>?_) (λhb=>?_)
  .replace h:=eQ (zQ hb) h;iterate 2 refine gn ?_
   refine pt ?_;refine mq ?_;iterate 3 refine gn ?_
   refine pt (nl ?_);exact jz ((),true) h [1,0]
  .replace h:=cQ (tQ hb) h;refine gm ?_;refine gb (fL rfl) ?_;refine pf ?_;refine mq ?_;refine cj (s:=40) rfl (λhb=>?_) (λhb=>?_)
   .replace h:=eQ (SQ hb) h;iterate 3 refine gn ?_
    refine pt (nl ?_);exact jz ((),true) h [1,0]
   .replace h:=cQ (Lp hb) h;refine gm ?_;refine ga (rN rfl rfl mM) ?_;refine gb (nm rfl) ?_;refine pf (nl ?_);exact jz ((),decide (32 < (r5.1.length:Int))) h [1,0]
 .
  refine cv h (λh=>?_) (λh=>?_)
  .refine sr (cq (nt (rx ?_)));cases h;exact ra
  .refine sk (sr (mq ?_));refine fl dh ?_;refine fr 1 ?_;refine lo ix ?_;refine ol vG ?_;obtain⟨x8,VS,h⟩:=aa h;refine jb (dL rfl VS) ?_;obtain⟨r9,VT,h⟩:=aa h;refine fr 1 ?_;refine kb (ax [.tmp 45,.tmp 49] rfl rfl I1 rfl (cp k (r3.2.2.2.2.1,r3.2.2.2.2.2.1,r3.2.2.2.2.2.2) b2 x8 r9 VT)) ?_;refine aq (nt (sr ?_));refine fr 1 ?_;refine lo fE ?_;refine mq ?_;obtain⟨c,VC,h⟩:=aa h;refine jb (aW [.tmp 52,.tmp 53] rfl rfl RS rfl (qx k r3.1 r9.1 c VC)) ?_;refine mq ?_;refine xr ?_;refine xr ?_;refine aq ?_;refine aq (nt (sr ?_));refine fl gG ?_;refine lo cF ?_;obtain⟨u,VB,h⟩:=aa h;refine ja (ax [.tmp 58] rfl rfl UI rfl (ym k r3.1.1 u VB)) ?_;refine aq (nt ?_);refine dk (Z:=Unit) (α:=Unit) (λY mc=>[]) (λY mc=>[]) (λe=>e=r) h (λe h=>Option.some.inj h) (λK hR h=>?_) (λY mc h=>?_)
   .refine sr (cq (nt (ai ?_)));refine aD (λX l=>[(4,Pt b4),(8,.rep (.slice Tl) r5.1),(10,I r9.1),(11,.rep Tl c.1),(12,I c.2),(13,.rep (.slice Tl) u),(14,I l)]) (λX l=>[.obj b4 28 (.rep an r3.1)]) (c9 k r3 r5 r9 c u) k () 0 (λ_=>rfl) h (SE.fin [0] ⟨rfl,rfl,rfl,rfl,rfl,rfl,rfl,trivial⟩ rfl) (λn X l h=>?_);unfold c9 at h;refine ak (sr ?_);iterate 2 refine mq ?_
    refine ol mM ?_;refine jb (bo rfl) ?_;refine nt (ci h (λh=>?_) (λh=>?_))
    .refine sk (dk (Z:=Unit) (α:=Unit) (λU gw=>[(4,Pt b4),(8,.rep (.slice Tl) r5.1),(10,I r9.1),(11,.rep Tl c.1),(12,I c.2),(13,.rep (.slice Tl) u),(14,I l)]) (λU gw=>[.obj b4 28 (.rep an r3.1)]) (λe=>e=r) h (λe h=>hR e h) (λK hR h=>?_) (λU gw h=>?_))
     .refine ai (ak (nH ?_));refine ff 0 rfl rfl rfl rfl (ay rfl fE (s7) rfl) ⟨rfl,trivial⟩ ?_;refine ba rfl rfl rfl (aV rfl) ⟨rfl,trivial⟩ ?_;refine ba rfl rfl rfl (aV rfl) ⟨rfl,trivial⟩ ?_;refine ba rfl rfl rfl (aV rfl) ⟨rfl,trivial⟩ ?_;obtain⟨VH,Vw,h⟩:=aa h;refine ba rfl rfl rfl (aK (t:=Tl) rfl mM dN Vw) ⟨rfl,rfl,trivial⟩ ?_;refine ba rfl rfl rfl (ao (t:=Tl) rfl dN rfl) ⟨rfl,trivial⟩ ?_;obtain⟨y,VA,h⟩:=aa h;refine ba rfl rfl rfl (ax [.tmp 66,.tmp 67,.tmp 71] rfl rfl UH rfl (wi k r3.1 r9.1 VH y VA)) ⟨rfl,rfl,rfl,trivial⟩ ?_;refine EP (KW 28 (.agg (.pair (I 0) (.pair (I 0) (.pair (I 0) (.pair (I 0) (.pair (.eq (.slice none 0 0)) (.eq (.slice none 0 0))))))))) (λ_=>rfl) rfl rfl rfl (be rfl uw yN) trivial ?_;refine ry 8 [true,true,true,true,true,true,true,true] [16] [] [] rfl (by kernel_rfl) (by kernel_rfl) (by kernel_rfl) dS (λvs hv hB=>?_);obtain⟨w0,V9,rfl,VQ⟩:=ap hv;obtain⟨w1,V8,rfl,VP⟩:=ap VQ;obtain⟨w2,V7,rfl,VO⟩:=ap VP;obtain⟨w3,V6,rfl,VN⟩:=ap VO;obtain⟨w4,V5,rfl,VM⟩:=ap VN;obtain⟨w5,V4,rfl,VL⟩:=ap VM;obtain⟨w6,V3,rfl,VK⟩:=ap VL;obtain⟨w7,V2,rfl,VJ⟩:=ap VK;obtain rfl:=nZ VJ;obtain⟨x,rfl⟩:=HD hB.2.2.2.2.2.2.2.1;refine⟨[0,1],[.obj b4 28 (.rep an r3.1),.obj x 28 (.agg (.pair (I 0) (.pair (I 0) (.pair (I 0) (.pair (I 0) (.pair (.eq (.slice none 0 0)) (.eq (.slice none 0 0))))))))],by kernel_rfl,by decide,?_⟩;refine py 1 rfl ?_;refine oq rfl rfl (aI rfl fE rfl rfl rfl) ⟨rfl,rfl,trivial⟩ (by kernel_rfl) ?_;refine P5 rfl rfl rfl rfl (nn rfl) ⟨rfl,trivial⟩ (by kernel_rfl) ?_;refine tL ?_;refine bK (SE.fin (Γ':=[(4,Pt b4),(8,.rep (.slice Tl) r5.1),(10,I r9.1),(11,.rep Tl c.1),(12,I c.2),(13,.rep (.slice Tl) u),(14,I l),(15,Pt x),(16,.eq (.bool true))]) (Δ':=[.obj x 28 (.rep an y),.obj b4 28 (.rep an r3.1)]) [0,1] ⟨rfl,rfl,rfl,rfl,rfl,rfl,rfl,rfl,rfl,trivial⟩ rfl) ?_;refine tn (dk (Z:=Unit) (α:=Bool) (λQ F=>[(4,Pt b4),(8,.rep (.slice Tl) r5.1),(10,I r9.1),(11,.rep Tl c.1),(12,I c.2),(13,.rep (.slice Tl) u),(14,I l),(16,.eq (.bool F))]) (λQ F=>[.obj b4 28 (.rep an r3.1)]) (λe=>e=r) h (λe h=>hR e h) (λK hR h=>?_) (λQ F h=>?_))
      .refine sr (cq (nt (ai ?_)));refine aD (λO j=>[(4,Pt b4),(8,.rep (.slice Tl) r5.1),(10,I r9.1),(11,.rep Tl c.1),(12,I c.2),(13,.rep (.slice Tl) u),(14,I l),(15,Pt x),(16,.eq (.bool j.1)),(17,I j.2)]) (λO j=>[.obj b4 28 (.rep an r3.1),.obj x 28 (.rep an y)]) (c8 k r5 r9 y) k () (true,0) (λ_=>rfl) h (SE.fin [1,0] ⟨rfl,rfl,rfl,rfl,rfl,rfl,rfl,rfl,rfl,rfl,trivial⟩ rfl) (λn O j h=>?_);unfold c8 at h;refine ak (aC (Z:=Unit) (α:=Bool) (λM E=>[(4,Pt b4),(8,.rep (.slice Tl) r5.1),(10,I r9.1),(11,.rep Tl c.1),(12,I c.2),(13,.rep (.slice Tl) u),(14,I l),(15,Pt x),(16,.eq (.bool j.1)),(17,I j.2),(79,.eq (.bool E))]) (λM E=>[.obj b4 28 (.rep an r3.1),.obj x 28 (.rep an y)]) h (λK h=>?_) (λM E h=>?_))
       .refine ab ?_;iterate 2 refine mq ?_
        refine ol mM ?_;refine jb (bo rfl) ?_;refine mq ?_;refine cj (s:=77) rfl (λhb=>?_) (λhb=>?_)
        .replace h:=eQ (sG hb) h;refine gm ?_;refine pt (nl ?_);exact jz ((),j.1) h [0,1]
        .replace h:=cQ (sH hb) h;refine gn ?_;refine pf (nl ?_);exact jz ((),false) h [0,1]
       .refine cv h (λh=>?_) (λh=>?_)
        .refine sk (ak (ai (ak (cN ?_))));refine ea 1 (ay rfl fE (s7) rfl) ?_;refine dm ?_;refine dm ?_;obtain⟨VG,Vv,h⟩:=aa h;refine db (aK (t:=Tl) rfl mM dN Vv) ?_;refine da (ao (t:=Tl) rfl dN rfl) ?_;refine dm ?_;obtain⟨qt,Vz,h⟩:=aa h;refine dc (aW [.tmp 83,.tmp 87,.tmp 88] rfl rfl UG rfl (vf k y VG r9.1 qt Vz)) ?_;refine dm ?_;refine da (jE rfl rfl) ?_;refine da (jE rfl rfl) ?_;refine da (nn rfl) ?_;refine df dS ?_;refine aq (nt (ak (sr ?_)));refine mq ?_;refine ja (gZ rfl) ?_;refine nt (cw h (λh=>?_) (λh=>?_))
         .refine sr (cq (nt (rx (br (bB (bv (br (bB (bv ?_)))))))));obtain rfl:=hR _ h;exact ra
         .refine sk (ab (mq ?_));refine ja (gZ rfl) ?_;refine aq (aE (aO (tn (ab ?_))));refine mq ?_;obtain⟨VF,Vu,h⟩:=aa h;refine jb (bj rfl Vu) ?_;refine aq (nl ?_);exact jz ((),(!qt.1,VF)) h [0,1]
        .refine xa ?_;exact jz ((),j.1) h [0]
      .refine sr (mq (nt ?_));refine cv h (λh=>?_) (λh=>?_)
       .refine aC (Z:=Unit) (α:=Bool) (λJ D=>[(2,.eq (.bool D))]) (λJ D=>[]) h (λK h=>?_) (λJ D h=>?_)
        .refine ab (mq ?_);refine jb (jm rfl) ?_;refine mq ?_;refine cj (s:=99) rfl (λhb=>?_) (λhb=>?_)
         .replace h:=eQ (sG hb) h;refine gm ?_;refine gm ?_;refine gm ?_;obtain⟨VE,Vt,h⟩:=aa h;refine gb (aK (t:=Tl) rfl mM dN Vt) ?_;refine ga (ao (t:=Tl) rfl dN rfl) ?_;obtain⟨VI,Vy,h⟩:=aa h;refine gb (ax [.tmp 100,.tmp 104] rfl rfl L9 rfl (iQ k c.1 VE VI Vy)) ?_;refine pt ?_;refine mq ?_;refine cj (s:=107) rfl (λhb=>?_) (λhb=>?_)
          .replace h:=eQ (NG hb) h;obtain⟨mw,Vx,h⟩:=aa h;refine lX rfl rfl rfl rfl rfl rfl (aW [] rfl rfl UF rfl (An k mw Vx)) trivial ?_;refine pt ?_;refine aq (nl ?_);exact jz ((),mw) h []
          .replace h:=cQ (NJ hb) h;refine gn ?_;refine pf ?_;refine aq (nl ?_);exact jz ((),false) h []
         .replace h:=cQ (sH hb) h;iterate 6 refine gn ?_
          refine pf ?_;refine mq ?_;refine gn ?_;refine pf ?_;refine aq (nl ?_);exact jz ((),false) h []
        .refine aA (br (bB (bv ?_)));obtain rfl:=hR _ h;exact ra
       .refine bi (bn ?_);exact jz ((),()) h [0]
     .refine ab (mq ?_);obtain⟨VD,zz,h⟩:=aa h;refine jb (bj rfl zz) ?_;refine aq (nl ?_);exact jz ((),VD) h [0]
    .refine xa ?_;exact jz ((),()) h []
   .refine sr (cq (nt (aA ?_)));cases h;exact ra
