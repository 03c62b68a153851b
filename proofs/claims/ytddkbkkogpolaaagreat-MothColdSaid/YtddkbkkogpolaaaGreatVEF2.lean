import Derived.Test.YtddkbkkogpolaaaGreatVEB11
open Nat
open List hiding mem_of_getElem?
open Array hiding mem_of_getElem? mk
set_option linter.unusedSimpArgs false
set_option linter.unusedVariables false
set_option maxRecDepth 4000
set_option maxHeartbeats 1000000
namespace Go.Proofs.YtddkbkkogpolaaaGreat
open K Go Go.Proofs
def fj(k:Nat)(r4:(List Int)×cx):Nat->((List Int)×Int×Int×Int×(List (List Int)))->Option ((List Int)×Int×Int×(List (List Int)))
 |0,_=>none
 |n+1,y7=>
  if y7.2.2.2.1 < (r4.1.length:Int) then((((fa k (y7.1,y7.2.1,y7.2.2.1) 5).bind λc=>
  if c.1=true then(some (c.2.1,c.2.2.1,c.2.2.2,y7.2.2.2.2)) else((ck ((y7.2.2.2.2.length:Int) - 1)).bind λr=>
  (cI k (c.2.1,c.2.2.1,c.2.2.2) r).bind λe=>
  (aQ y7.2.2.2.2 e.1).bind λj=>
  (aQ r4.1 y7.2.2.2.1).bind λh=>
  (cM (bW (length j+length [h]))).bind λ_=>
  some (e.2.1,e.2.2.1,e.2.2.2,List.set y7.2.2.2.2 (Int.toNat e.1) (j++[h])))):Option ((List Int)×Int×Int×(List (List Int)))).bind λx9=>
  (ck (y7.2.2.2.1+1)).bind λl=>
  fj k r4 n (x9.1,x9.2.1,x9.2.2.1,l,x9.2.2.2)) else(some (y7.1,y7.2.1,y7.2.2.1,y7.2.2.2.2))
def jC(k:Nat)(a0:cx)(a1:Int):Option ((List (List Int))×cx):=
 (fC k (a0.1,a0.2.1,a0.2.2) 1 3).bind λr1=>
 (cM (0≤r1.1/\bW (Int.toNat r1.1))).bind λ_=>
 (gB k (r1.2.1,r1.2.2.1,r1.2.2.2) a1).bind λr4=>
 ((fj k r4 k (r4.2.1,r4.2.2.1,r4.2.2.2,0,List.replicate (Int.toNat r1.1) ([]:(List Int)))):Option ((List Int)×Int×Int×(List (List Int)))).bind λx5=>
 some (x5.2.2.2,(x5.1,x5.2.1,x5.2.2.1))
theorem t3(k:Nat)(a0:cx)(c:Nat)(a1:Int)(r:(List (List Int))×cx)(h:jC k a0 a1=some r):
 dB Tryz.prog 59 [Pt c,I a1] [.obj c 71 (.agg (.pair (.rep Tl a0.1) (.pair (I a0.2.1) (.eq (.int .u64 a0.2.2)))))] (λ_:Unit=>(bM [.rep (.slice Tl) r.1],[.obj c 71 (.agg (.pair (.rep Tl r.2.1) (.pair (I r.2.2.1) (.eq (.int .u64 r.2.2.2)))))])):=by
 unfold jC at h
 replace h:=bu h
 refine dB.of 42 Tryz.func59 rfl Tryz.ntmps59 rfl λS w0=>?_
 refine sr ?_
 refine cq ?_
 refine nt ?_
 refine sr ?_
 refine mq ?_
 obtain⟨r1,TU,h⟩:=aa h
 have TW:=iN k (a0.1,a0.2.1,a0.2.2) c 1 3 r1 TU
 refine kc (aA [.tmp 9,.const (.int .i64 (1)),.const (.int .i64 (3))] rfl rfl Ko rfl TW) ?_
 obtain⟨u2,U,h⟩:=aa h
 refine bi rfl rfl rfl (Ni (t:=.val) (d:=.slice none 0 0) rfl oR OB (ap U).1 (ap U).2) ⟨rfl,rfl,trivial⟩ λv3=>?_
 refine eZ (H5 (F:=[.obj c 71 (.agg (.pair (.rep Tl r1.2.1) (.pair (I r1.2.2.1) (.eq (.int .u64 r1.2.2.2)))))])) ?_
 refine aq ?_
 refine nt ?_
 refine sr ?_
 iterate 2 refine mq ?_
 obtain⟨r4,TS,h⟩:=aa h
 have TV:=qC k (r1.2.1,r1.2.2.1,r1.2.2.2) c a1 r4 TS
 refine kb (aA [.tmp 12,.tmp 13] rfl rfl Rx rfl TV) ?_
 refine aq ?_
 refine nt ?_
 refine aL (Z:=(Value×(Nat->Value))) (α:=(List Int)×Int×Int×(List (List Int))) (λz6 x5=>[(5,.eq z6.1)]) (λz6 x5=>[.obj c 71 (.agg (.pair (.rep Tl x5.1) (.pair (I x5.2.1) (.eq (.int .u64 x5.2.2.1)))))]++wL 22 z6 x5.2.2.2) h (λK h=>?_) (λz6 x5 h=>?_)
 .
  refine sr (cq (nt (ak ?_)));refine aK (Z:=(Value×(Nat->Value))) (α:=(List Int)×Int×Int×Int×(List (List Int))) (λz8 y7=>[(0,Pt c),(5,.eq z8.1),(6,.rep Tl r4.1),(7,I y7.2.2.2.1)]) (λz8 y7=>[.obj c 71 (.agg (.pair (.rep Tl y7.1) (.pair (I y7.2.1) (.eq (.int .u64 y7.2.2.1)))))]++wL 22 z8 y7.2.2.2.2) (fj k r4) k (v3,λ_=>.slice none 0 0) (r4.2.1,r4.2.2.1,r4.2.2.2,0,List.replicate (Int.toNat r1.1) ([]:(List Int))) (λ_=>rfl) h (kz [.obj c 71 (.agg (.pair (.rep Tl r4.2.1) (.pair (I r4.2.2.1) (.eq (.int .u64 r4.2.2.2)))))] (wL 22 (v3,λ_=>.slice none 0 0) (List.replicate (Int.toNat r1.1) ([]:(List Int)))) [0] ⟨rfl,rfl,rfl,rfl,trivial⟩ rfl) (λn z8 y7 h=>?_);unfold fj at h;refine am (sr ?_);iterate 2 refine mq ?_
  refine ol fD ?_;refine jb (ba rfl) ?_;refine nt (ci h (λh=>?_) (λh=>?_))
  .refine sk (aL (Z:=(Value×(Nat->Value))) (α:=(List Int)×Int×Int×(List (List Int))) (λy x9=>[(0,Pt c),(5,.eq y.1),(6,.rep Tl r4.1),(7,I y7.2.2.2.1)]) (λy x9=>[.obj c 71 (.agg (.pair (.rep Tl x9.1) (.pair (I x9.2.1) (.eq (.int .u64 x9.2.2.1)))))]++wL 22 y x9.2.2.2) h (λK h=>?_) (λy x9 h=>?_))
   .refine ak (am (sr (mq ?_)));obtain⟨j,gw,h⟩:=aa h;refine kb (aA [.tmp 21,.const (.int .i64 (5))] rfl rfl NK rfl (jf k (y7.1,y7.2.1,y7.2.2.1) c 5 j gw)) ?_;refine nt (cv h (λh=>?_) (λh=>?_))
    .refine fg (bK (cX (ao ?_)));exact uB (z8,(j.2.1,j.2.2.1,j.2.2.2,y7.2.2.2.2)) h (kz [.obj c 71 (.agg (.pair (.rep Tl j.2.1) (.pair (I j.2.2.1) (.eq (.int .u64 j.2.2.2)))))] (wL 22 z8 y7.2.2.2.2) [0] ⟨rfl,rfl,rfl,rfl,trivial⟩ rfl)
    .refine sk (sr ?_);iterate 2 refine mq ?_
     refine Ic (pre:=[.obj c 71 (.agg (.pair (.rep Tl j.2.1) (.pair (I j.2.2.1) (.eq (.int .u64 j.2.2.2)))))]) rfl rfl rfl rfl rfl qL ⟨rfl,trivial⟩ ?_;obtain⟨mw,Q,h⟩:=aa h;refine jb (eG rfl Q) ?_;obtain⟨e,Y,h⟩:=aa h;refine kb (aA [.tmp 23,.tmp 26] rfl rfl xn rfl (cS k (j.2.1,j.2.2.1,j.2.2.2) c mw e Y)) ?_;refine aq (nt ?_);obtain⟨x,s,h⟩:=aa h;refine jN (EA (pre:=[.obj c 71 (.agg (.pair (.rep Tl e.2.1) (.pair (I e.2.2.1) (.eq (.int .u64 e.2.2.2)))))]) (B0 s).2) ?_;obtain⟨u,O,h⟩:=aa h;obtain⟨u16,X,h⟩:=aa h;refine Ig (Δ:=[.sl (z8.2 (Int.toNat e.1)) 3 Ti x,.sl z8.1 22 .val (nz z8.2 0 y7.2.2.2.2),.obj c 71 (.agg (.pair (.rep Tl e.2.1) (.pair (I e.2.2.1) (.eq (.int .u64 e.2.2.2)))))]) (F:=(nk z8.2 0 y7.2.2.2.2).eraseIdx (Int.toNat e.1)) (Z:=Value) (λi=>[(0,Pt c),(5,.eq z8.1),(6,.rep Tl r4.1),(7,I y7.2.2.2.1)]) (λi=>[.sl z8.1 22 .val (List.set (nz z8.2 0 y7.2.2.2.2) (Int.toNat e.1) i),.sl i 3 Ti (x++[u]),.obj c 71 (.agg (.pair (.rep Tl e.2.1) (.pair (I e.2.2.1) (.eq (.int .u64 e.2.2.2)))))]) (λS w=>?_) (λl=>?_)
     .refine qP ?_;refine cH rfl rfl rfl (bS rfl) ⟨rfl,trivial⟩ ?_;refine cH rfl rfl rfl (bS rfl) ⟨rfl,trivial⟩ ?_;refine cH rfl rfl rfl (bS rfl) ⟨rfl,trivial⟩ ?_;refine cH rfl rfl rfl (bS rfl) ⟨rfl,trivial⟩ ?_;refine iU 1 rfl rfl rfl rfl (cK (t:=.val) rfl qL gY (sU s)) ⟨rfl,rfl,trivial⟩ ?_;refine iU 1 rfl rfl rfl rfl (gJ (i:=Int.toNat e.1) (off:=0) rfl gY (λ_=>rfl) rfl (dG (sU s)).2.2 rfl) ⟨rfl,trivial⟩ ?_;refine cH rfl rfl rfl (bS rfl) ⟨rfl,trivial⟩ ?_;refine cH rfl rfl rfl (bS rfl) ⟨rfl,trivial⟩ ?_;refine cH rfl rfl rfl (aW (t:=Ti) rfl fD cJ O) ⟨rfl,rfl,trivial⟩ ?_;refine cH rfl rfl rfl (av (t:=Ti) rfl cJ rfl) ⟨rfl,trivial⟩ ?_;refine cH rfl rfl rfl (bh (t:=Ti) [(.tmp 37,_)] [u] rfl rfl dD (.cons rfl .int .nil) rfl rfl) ⟨rfl,trivial⟩ ?_;refine Io 0 rfl (λv=>[.sl v 3 Ti (x++[u])]) (λ_=>rfl) rfl rfl rfl (cL rfl rfl dD (ap X)) ⟨rfl,rfl,trivial⟩ ?_;refine xM 12 [true,true,true,true,true,true,true,true,true,true,true,true] [40] [] [] rfl (by kernel_rfl) (by kernel_rfl) (by kernel_rfl) eU (λvs hv hB=>?_);obtain⟨w0,Uh,rfl,TR⟩:=aG hv;obtain⟨w1,Ug,rfl,TP⟩:=aG TR;obtain⟨w2,Uf,rfl,TO⟩:=aG TP;obtain⟨w3,Ue,rfl,TN⟩:=aG TO;obtain⟨w4,Ud,rfl,TM⟩:=aG TN;obtain⟨w5,Uc,rfl,TL⟩:=aG TM;obtain⟨w6,Ub,rfl,TK⟩:=aG TL;obtain⟨w7,Ua,rfl,zz⟩:=aG TK;obtain⟨w8,T9,rfl,qt⟩:=aG zz;obtain⟨w9,TZ,rfl,J⟩:=aG qt;obtain⟨T8,TY,rfl,E⟩:=aG J;obtain⟨l,TX,rfl,D⟩:=aG E;obtain rfl:=s6 D;refine⟨[0,1,2],[.sl z8.1 22 .val (nz z8.2 0 y7.2.2.2.2),.obj c 71 (.agg (.pair (.rep Tl e.2.1) (.pair (I e.2.2.1) (.eq (.int .u64 e.2.2.2))))),.sl l 3 Ti (x++[u])],by kernel_rfl,by decide,?_⟩;refine Br rfl rfl rfl rfl (cK (t:=.val) rfl qL gY (sU s)) ⟨rfl,rfl,trivial⟩ (by kernel_rfl) ?_;refine ux 2 rfl ?_;refine Oc λo18=>?_;refine ux 1 rfl ?_;refine sc rfl rfl (gk (i:=Int.toNat e.1) rfl gY rfl (mU (sU s)) rfl (.val o18) o18) ⟨rfl,rfl,trivial⟩ (by kernel_rfl) ?_;refine xI ?_;refine ce (SE.fin (Γ':=[(0,Pt c),(5,.eq z8.1),(6,.rep Tl r4.1),(7,I y7.2.2.2.1)]) (Δ':=[.sl z8.1 22 .val (List.set (nz z8.2 0 y7.2.2.2.2) (Int.toNat e.1) l),.sl l 3 Ti (x++[u]),.obj c 71 (.agg (.pair (.rep Tl e.2.1) (.pair (I e.2.2.1) (.eq (.int .u64 e.2.2.2)))))]) [0,1,2] ⟨rfl,rfl,rfl,rfl,trivial⟩ rfl) ?_;exact λa w st=>⟨rfl,(l),(SE.fin (Γ':=[(0,Pt c),(5,.eq z8.1),(6,.rep Tl r4.1),(7,I y7.2.2.2.1)]) (Δ':=[.sl z8.1 22 .val (List.set (nz z8.2 0 y7.2.2.2.2) (Int.toNat e.1) l),.sl l 3 Ti (x++[u]),.obj c 71 (.agg (.pair (.rep Tl e.2.1) (.pair (I e.2.2.1) (.eq (.int .u64 e.2.2.2)))))]) [0,1,2] ⟨rfl,rfl,rfl,rfl,trivial⟩ rfl) a w st⟩
     .show JN _ _ [(0,Pt c),(5,.eq z8.1),(6,.rep Tl r4.1),(7,I y7.2.2.2.1)] ([.sl z8.1 22 .val (List.set (nz z8.2 0 y7.2.2.2.2) (Int.toNat e.1) l),.sl l 3 Ti (x++[u]),.obj c 71 (.agg (.pair (.rep Tl e.2.1) (.pair (I e.2.2.1) (.eq (.int .u64 e.2.2.2)))))]++(nk z8.2 0 y7.2.2.2.2).eraseIdx (Int.toNat e.1));refine bz 1 rfl ?_;refine ce (Bn (pre:=[.obj c 71 (.agg (.pair (.rep Tl e.2.1) (.pair (I e.2.2.1) (.eq (.int .u64 e.2.2.2)))))]) (z:=z8) (i:=Int.toNat e.1) (B0 s).2) ?_;refine bn ?_;exact uB ((z8.1,Aj z8.2 (Int.toNat e.1) l),(e.2.1,e.2.2.1,e.2.2.2,List.set y7.2.2.2.2 (Int.toNat e.1) (x++[u]))) h (kz [.obj c 71 (.agg (.pair (.rep Tl e.2.1) (.pair (I e.2.2.1) (.eq (.int .u64 e.2.2.2)))))] (wL 22 (z8.1,Aj z8.2 (Int.toNat e.1) l) (List.set y7.2.2.2.2 (Int.toNat e.1) (x++[u]))) [0] ⟨rfl,rfl,rfl,rfl,trivial⟩ rfl)
   .refine ab (mq ?_);obtain⟨mc,M,h⟩:=aa h;refine jb (bg rfl M) ?_;refine aq (nl ?_);exact uB (y,(x9.1,x9.2.1,x9.2.2.1,mc,x9.2.2.2)) h (kz [.obj c 71 (.agg (.pair (.rep Tl x9.1) (.pair (I x9.2.1) (.eq (.int .u64 x9.2.2.1)))))] (wL 22 y x9.2.2.2) [0] ⟨rfl,rfl,rfl,rfl,trivial⟩ rfl)
  .refine xa ?_;exact uB (z8,(y7.1,y7.2.1,y7.2.2.1,y7.2.2.2.2)) h (kz [.obj c 71 (.agg (.pair (.rep Tl y7.1) (.pair (I y7.2.1) (.eq (.int .u64 y7.2.2.1)))))] (wL 22 z8 y7.2.2.2.2) [0] ⟨rfl,trivial⟩ rfl)
 .
  refine sr (mq ?_);refine aq (nt (aD ?_));refine ce (H6 (pre:=[.obj c 71 (.agg (.pair (.rep Tl x5.1) (.pair (I x5.2.1) (.eq (.int .u64 x5.2.2.1)))))])) ?_;refine ce (iS [4,5,41] ⟨rfl,rfl,rfl,trivial⟩) ?_;cases h;exact aR () [_] 1 ⟨rfl,trivial⟩ rfl
def fo(k:Nat)(r2:Int×cx):Nat->((List Int)×Int×Int×(List (List (List Int)))×Int)->Option ((List (List (List Int)))×(List Int)×Int×Int)
 |0,_=>none
 |n+1,c=>
  if 0 < c.2.2.2.2 then(((((if 0 < (c.2.2.2.1.length:Int) then((fa k (c.1,c.2.1,c.2.2.1) 3).bind λl=>
  some (l.2.1,l.2.2.1,l.2.2.2,l.1)) else(some (c.1,c.2.1,c.2.2.1,false))):Option ((List Int)×Int×Int×Bool)).bind λe=>
  if e.2.2.2=true then((ck ((c.2.2.2.1.length:Int) - 1)).bind λx=>
  (aQ c.2.2.2.1 x).bind λu=>
  (hP k u).bind λr=>
  (cM (bW (length c.2.2.2.1+length [r]))).bind λ_=>
  some (e.1,e.2.1,e.2.2.1,c.2.2.2.1++[r])) else((jC k (e.1,e.2.1,e.2.2.1) r2.1).bind λh=>
  (cM (bW (length c.2.2.2.1+length [h.1]))).bind λ_=>
  some (h.2.1,h.2.2.1,h.2.2.2,c.2.2.2.1++[h.1]))):Option ((List Int)×Int×Int×(List (List (List Int))))).bind λj=>
  (ck (c.2.2.2.2 - 1)).bind λs=>
  fo k r2 n (j.1,j.2.1,j.2.2.1,j.2.2.2,s)) else(some (c.2.2.2.1,c.1,c.2.1,c.2.2.1))
def iy(k:Nat)(a0:cx)(a1:Int)(a2:Int):Option (ae×cx):=
 (fC k (a0.1,a0.2.1,a0.2.2) 1 a1).bind λr2=>
 (cI k (r2.2.1,r2.2.2.1,r2.2.2.2) 3).bind λr3=>
 (gA k (r3.2.1,r3.2.2.1,r3.2.2.2) [0,1,1,2,r3.1]).bind λr4=>
 (cI k (r4.2.1,r4.2.2.1,r4.2.2.2) 3).bind λr5=>
 (gA k (r5.2.1,r5.2.2.1,r5.2.2.2) [0,1,2,r5.1]).bind λr6=>
 (fC k (r6.2.1,r6.2.2.1,r6.2.2.2) 1 3).bind λr7=>
 (gA k (r7.2.1,r7.2.2.1,r7.2.2.2) [1,2,r7.1]).bind λr8=>
 (((fC k (r8.2.1,r8.2.2.1,r8.2.2.2) 1 a2).bind λe=>
 fo k r2 k (e.2.1,e.2.2.1,e.2.2.2,([]:(List (List (List Int)))),e.1)):Option ((List (List (List Int)))×(List Int)×Int×Int)).bind λc=>
 some ((r2.1,r4.1,r6.1,r8.1,c.1,[]),(c.2.1,c.2.2.1,c.2.2.2))
theorem t5(k:Nat)(a0:cx)(c:Nat)(a1:Int)(a2:Int)(r:ae×cx)(h:iy k a0 a1 a2=some r):
 dB Tryz.prog 23 [Pt c,I a1,I a2] [.obj c 71 (.agg (.pair (.rep Tl a0.1) (.pair (I a0.2.1) (.eq (.int .u64 a0.2.2)))))] (λ_:Unit=>(bM [.agg (.pair (I r.1.1) (.pair (I r.1.2.1) (.pair (I r.1.2.2.1) (.pair (I r.1.2.2.2.1) (.pair (.rep (.slice (.slice Tl)) r.1.2.2.2.2.1) (.eq (.slice none 0 0)))))))],[.obj c 71 (.agg (.pair (.rep Tl r.2.1) (.pair (I r.2.2.1) (.eq (.int .u64 r.2.2.2)))))])):=by
 unfold iy at h
 replace h:=bu h
 refine dB.of 67 Tryz.func23 rfl Tryz.ntmps23 rfl λS w0=>?_
 refine sr ?_
 refine bi rfl rfl rfl (bJ rfl Do KO) trivial λb1=>?_
 refine nt ?_
 refine sr ?_
 iterate 2 refine mq ?_
 obtain⟨r2,TX,h⟩:=aa h
 have Uc:=iN k (a0.1,a0.2.1,a0.2.2) c 1 a1 r2 TX
 refine fr 1 ?_
 refine kc (aA [.tmp 10,.const (.int .i64 (1)),.tmp 11] rfl rfl Ko rfl Uc) ?_
 iterate 2 refine mq ?_
 obtain⟨r3,TW,h⟩:=aa h
 have Ub:=cS k (r2.2.1,r2.2.2.1,r2.2.2.2) c 3 r3 TW
 refine kb (aA [.tmp 14,.const (.int .i64 (3))] rfl rfl xn rfl Ub) ?_
 refine co rfl (bh (t:=Ti) [(.const (.int .i64 (0)),_),(.const (.int .i64 (1)),_),(.const (.int .i64 (1)),_),(.const (.int .i64 (2)),_),(.tmp 15,_)] [0,1,1,2,r3.1] rfl rfl dD (.cons rfl .int (.cons rfl .int (.cons rfl .int (.cons rfl .int (.cons rfl .int .nil))))) rfl rfl) ⟨rfl,rfl,rfl,rfl,rfl,trivial⟩ ?_
 obtain⟨r4,TV,h⟩:=aa h
 have Ua:=kZ k (r3.2.1,r3.2.2.1,r3.2.2.2) c [0,1,1,2,r3.1] r4 TV
 refine kb (aA [.tmp 13,.tmp 16] rfl rfl NJ rfl Ua) ?_
 iterate 2 refine mq ?_
 obtain⟨r5,TU,h⟩:=aa h
 have T9:=cS k (r4.2.1,r4.2.2.1,r4.2.2.2) c 3 r5 TU
 refine kb (aA [.tmp 19,.const (.int .i64 (3))] rfl rfl xn rfl T9) ?_
 refine co rfl (bh (t:=Ti) [(.const (.int .i64 (0)),_),(.const (.int .i64 (1)),_),(.const (.int .i64 (2)),_),(.tmp 20,_)] [0,1,2,r5.1] rfl rfl dD (.cons rfl .int (.cons rfl .int (.cons rfl .int (.cons rfl .int .nil)))) rfl rfl) ⟨rfl,rfl,rfl,rfl,trivial⟩ ?_
 obtain⟨r6,TS,h⟩:=aa h
 have T8:=kZ k (r5.2.1,r5.2.2.1,r5.2.2.2) c [0,1,2,r5.1] r6 TS
 refine kb (aA [.tmp 18,.tmp 21] rfl rfl NJ rfl T8) ?_
 iterate 2 refine mq ?_
 obtain⟨r7,TR,h⟩:=aa h
 have TZ:=iN k (r6.2.1,r6.2.2.1,r6.2.2.2) c 1 3 r7 TR
 refine kc (aA [.tmp 24,.const (.int .i64 (1)),.const (.int .i64 (3))] rfl rfl Ko rfl TZ) ?_
 refine jc (bh (t:=Ti) [(.const (.int .i64 (1)),_),(.const (.int .i64 (2)),_),(.tmp 25,_)] [1,2,r7.1] rfl rfl dD (.cons rfl .int (.cons rfl .int (.cons rfl .int .nil))) rfl rfl) ?_
 obtain⟨r8,TP,h⟩:=aa h
 have TY:=kZ k (r7.2.1,r7.2.2.1,r7.2.2.2) c [1,2,r7.1] r8 TP
 refine kb (aA [.tmp 23,.tmp 26] rfl rfl NJ rfl TY) ?_
 refine co rfl (eu [(0,.tmp 12,_),(1,.tmp 17,_),(2,.tmp 22,_),(3,.tmp 27,_)] rfl OU Do LS (j7 ⟨rfl,rfl,rfl,rfl,trivial⟩) rfl) ⟨rfl,rfl,rfl,rfl,trivial⟩ ?_
 refine bi rfl rfl rfl (bJ rfl Do KO) trivial λb9=>?_
 refine aV rfl rfl (aS rfl jP trivial rfl rfl) ⟨rfl,rfl,trivial⟩ ?_
 refine nt ?_
 refine aL (Z:=Value) (α:=(List (List (List Int)))×(List Int)×Int×Int) (λJ y=>[(6,Pt b1),(7,Pt b9)]) (λJ y=>[.obj b1 26 (.agg (.pair (I 0) (.pair (I 0) (.pair (I 0) (.pair (I 0) (.pair (.eq (.slice none 0 0)) (.eq (.slice none 0 0)))))))),.obj b9 26 (.agg (.pair (I r2.1) (.pair (I r4.1) (.pair (I r6.1) (.pair (I r8.1) (.pair (.eq J) (.eq (.slice none 0 0)))))))),.sl J 30 (.slice Tl) y.1,.obj c 71 (.agg (.pair (.rep Tl y.2.1) (.pair (I y.2.2.1) (.eq (.int .u64 y.2.2.2)))))]) h (λK h=>?_) (λJ y h=>?_)
 .
  refine sr ?_;iterate 2 refine mq ?_
  obtain⟨F,zz,h⟩:=aa h;refine fr 1 ?_;refine kc (aA [.tmp 29,.const (.int .i64 (1)),.tmp 30] rfl rfl Ko rfl (iN k (r8.2.1,r8.2.2.1,r8.2.2.2) c 1 a2 F zz)) ?_;refine aq (nt (ak ?_));refine jN (SE.nil 30 (.slice Tl)) ?_;refine aK (λu e=>[(0,Pt c),(6,Pt b1),(7,Pt b9),(8,I e.2.2.2.2)]) (λu e=>[.obj c 71 (.agg (.pair (.rep Tl e.1) (.pair (I e.2.1) (.eq (.int .u64 e.2.2.1))))),.obj b1 26 (.agg (.pair (I 0) (.pair (I 0) (.pair (I 0) (.pair (I 0) (.pair (.eq (.slice none 0 0)) (.eq (.slice none 0 0)))))))),.obj b9 26 (.agg (.pair (I r2.1) (.pair (I r4.1) (.pair (I r6.1) (.pair (I r8.1) (.pair (.eq u) (.eq (.slice none 0 0)))))))),.sl u 30 (.slice Tl) e.2.2.2.1]) (fo k r2) k (.slice none 0 0) (F.2.1,F.2.2.1,F.2.2.2,([]:(List (List (List Int)))),F.1) (λ_=>rfl) h (SE.fin [1,3,2,0] ⟨rfl,rfl,rfl,rfl,trivial⟩ rfl) (λn u e h=>?_);unfold fo at h;refine am (sr (mq ?_));refine jb (mf rfl) ?_;refine nt (ci h (λh=>?_) (λh=>?_))
  .refine sk (aL (Z:=Value) (α:=(List Int)×Int×Int×(List (List (List Int)))) (λD l=>[(0,Pt c),(6,Pt b1),(7,Pt b9),(8,I e.2.2.2.2)]) (λD l=>[.obj c 71 (.agg (.pair (.rep Tl l.1) (.pair (I l.2.1) (.eq (.int .u64 l.2.2.1))))),.obj b1 26 (.agg (.pair (I 0) (.pair (I 0) (.pair (I 0) (.pair (I 0) (.pair (.eq (.slice none 0 0)) (.eq (.slice none 0 0)))))))),.obj b9 26 (.agg (.pair (I r2.1) (.pair (I r4.1) (.pair (I r6.1) (.pair (I r8.1) (.pair (.eq D) (.eq (.slice none 0 0)))))))),.sl D 30 (.slice Tl) l.2.2.2]) h (λK h=>?_) (λD l h=>?_))
   .refine ak (am (sr (fl dZ ?_)));refine fr 2 ?_;refine lo jQ ?_;refine fr 3 ?_;refine ka (me rfl rfl xF) ?_;refine aq (nt ?_);refine aL (Z:=Unit) (α:=(List Int)×Int×Int×Bool) (λQ j=>[(0,Pt c),(6,Pt b1),(7,Pt b9),(8,I e.2.2.2.2),(9,I (e.2.2.2.1.length:Int)),(44,.eq (.bool j.2.2.2))]) (λQ j=>[.obj c 71 (.agg (.pair (.rep Tl j.1) (.pair (I j.2.1) (.eq (.int .u64 j.2.2.1))))),.obj b1 26 (.agg (.pair (I 0) (.pair (I 0) (.pair (I 0) (.pair (I 0) (.pair (.eq (.slice none 0 0)) (.eq (.slice none 0 0)))))))),.obj b9 26 (.agg (.pair (I r2.1) (.pair (I r4.1) (.pair (I r6.1) (.pair (I r8.1) (.pair (.eq u) (.eq (.slice none 0 0)))))))),.sl u 30 (.slice Tl) e.2.2.2.1]) h (λK h=>?_) (λQ j h=>?_)
    .refine ab (mq ?_);refine jb (mf rfl) ?_;refine mq ?_;refine an (s:=41) rfl (λhb=>?_) (λhb=>?_)
     .replace h:=be (gV hb) h;refine gm ?_;obtain⟨E,qt,h⟩:=aa h;refine fr 2 ?_;refine lW rfl rfl rfl rfl rfl rfl (aA [.tmp 42,.const (.int .i64 (3))] rfl rfl NK rfl (jf k (e.1,e.2.1,e.2.2.1) c 3 E qt)) ⟨rfl,rfl,trivial⟩ ?_;refine pt (nl ?_);exact jz ((),(E.2.1,E.2.2.1,E.2.2.2,E.1)) h [0,3,2,1]
     .replace h:=aC (gW hb) h;iterate 2 refine gn ?_
      refine pf (nl ?_);exact jz ((),(e.1,e.2.1,e.2.2.1,false)) h [2,3,1,0]
    .refine cv h (λh=>?_) (λh=>?_)
     .refine am (cV ?_);refine da (aJ rfl dZ) ?_;refine ea 2 (aE rfl jQ oU rfl) ?_;refine da (aJ rfl dZ) ?_;refine ea 2 (aE rfl jQ oU rfl) ?_;refine dm ?_;obtain⟨TM,X,h⟩:=aa h;refine db (eG rfl X) ?_;obtain⟨TL,M,h⟩:=aa h;refine eb 3 (cK (t:=(.slice Tl)) rfl xF sG M) ?_;refine ea 3 (gJ (i:=Int.toNat TM) (off:=0) rfl sG (λ_=>rfl) rfl (dG M).2.2 rfl) ?_;obtain⟨O,mw,h⟩:=aa h;refine da (C4 (aA [.tmp 52] rfl rfl RP rfl (rL k TL O mw))) ?_;refine da (bh (t:=(.slice Tl)) [(.tmp 53,_)] [O] rfl rfl Ai (.cons rfl .rep .nil) rfl rfl) ?_;refine df eU ?_;obtain⟨Ue,gw,h⟩:=aa h;refine fr 3 ?_;refine eC rfl rfl rfl (cL rfl rfl Ai (ap gw)) ⟨rfl,rfl,trivial⟩ λTO=>?_;refine fl dZ ?_;refine uy λo25=>?_;refine fr 3 ?_;refine aV rfl rfl (aS rfl jQ o25 rfl rfl) ⟨rfl,rfl,trivial⟩ ?_;refine nt (fg (bK (cX (ao ?_))));exact jz (TO,(j.1,j.2.1,j.2.2.1,e.2.2.2.1++[O])) h [2,3,0,1]
     .refine sk (cV ?_);refine da (aJ rfl dZ) ?_;refine ea 2 (aE rfl jQ oU rfl) ?_;refine dm ?_;refine da (aJ rfl gC) ?_;refine ea 2 (aE rfl cJ oU rfl) ?_;obtain⟨x,mc,h⟩:=aa h;refine Dk 0 rfl rfl rfl rfl (aA [.tmp 59,.tmp 61] rfl rfl RN rfl (t3 k (j.1,j.2.1,j.2.2.1) c r2.1 x mc)) ⟨rfl,rfl,trivial⟩ ?_;refine da (bh (t:=(.slice Tl)) [(.tmp 62,_)] [x.1] rfl rfl Ai (.cons rfl .rep .nil) rfl rfl) ?_;refine Dl (Δ':=[.obj b1 26 (.agg (.pair (I 0) (.pair (I 0) (.pair (I 0) (.pair (I 0) (.pair (.eq (.slice none 0 0)) (.eq (.slice none 0 0)))))))),.obj b9 26 (.agg (.pair (I r2.1) (.pair (I r4.1) (.pair (I r6.1) (.pair (I r8.1) (.pair (.eq u) (.eq (.slice none 0 0)))))))),.sl u 30 (.slice Tl) e.2.2.2.1,.obj c 71 (.agg (.pair (.rep Tl x.2.1) (.pair (I x.2.2.1) (.eq (.int .u64 x.2.2.2)))))]) (by kernel_rfl) eU (by kernel_rfl) ?_;obtain⟨Ud,Y,h⟩:=aa h;refine fr 2 ?_;refine eC rfl rfl rfl (cL rfl rfl Ai (ap Y)) ⟨rfl,rfl,trivial⟩ λTN=>?_;refine fl dZ ?_;refine uy λo29=>?_;refine fr 2 ?_;refine aV rfl rfl (aS rfl jQ o29 rfl rfl) ⟨rfl,rfl,trivial⟩ ?_;refine aI (bn ?_);exact jz (TN,(x.2.1,x.2.2.1,x.2.2.2,e.2.2.2.1++[x.1])) h [3,2,0,1]
   .refine ab (mq ?_);obtain⟨TK,U,h⟩:=aa h;refine jb (eG rfl U) ?_;refine aq (nl ?_);exact jz (D,(l.1,l.2.1,l.2.2.1,l.2.2.2,TK)) h [0,1,2,3]
  .refine xa ?_;exact jz (u,(e.2.2.2.1,e.1,e.2.1,e.2.2.1)) h [1,2,3,0]
 .
  refine sr (fr 1 ?_);refine fr 2 ?_;refine eZ (pU (off:=4) [] trivial rfl rfl) ?_;refine lo jP ?_;refine fr 1 ?_;refine aV rfl rfl (aS rfl jP trivial rfl rfl) ⟨rfl,rfl,trivial⟩ ?_;refine nt (aD (ce (SE.fin (Γ':=[(6,_)]) [2,0,1] ⟨rfl,trivial⟩ rfl) ?_));cases h;exact aR () [.agg (.pair (I r2.1) (.pair (I r4.1) (.pair (I r6.1) (.pair (I r8.1) (.pair (.rep (.slice (.slice Tl)) y.1) (.eq (.slice none 0 0)))))))] 1 ⟨⟨_,_,_,_,_,rfl,(.tail _ (.head _)),jP,(vE),rfl⟩,trivial⟩ rfl
def eP(k:Nat)(a0:ae)(a1:(List Int)):Nat->(Int×Int)->Option (Except ((Option ae)×Int×Int) Int)
 |0,_=>none
 |n+1,y5=>
  if y5.2 < (a1.length:Int) then((aQ a1 y5.2).bind λx7=>
  (ck (a0.1 - 1)).bind λx8=>
  (dE k x7 0 x8).bind λr9=>
  if¬(r9=true) then(some (.error (none,0,3))) else(((if 0 < y5.2 then((ck (y5.2 - 1)).bind λh=>
  (aQ a1 h).bind λe=>
  some (decide (x7≤e))) else(some false)):Option (Bool)).bind λj=>
  if j=true then(some (.error (none,0,5))) else((fN k y5.1 x7).bind λl=>
  (ck (y5.2+1)).bind λc=>
  eP k a0 a1 n (l,c)))) else(some (.ok y5.1))
def dw(k:Nat)(a0:ae)(h:Int)(e:(List Int)):Nat->Int->Option (Except ((Option ae)×Int×Int) Unit)
 |0,_=>none
 |n+1,c=>
  if c < (e.length:Int) then((aQ e c).bind λu=>
  (ck (a0.1 - 1)).bind λs=>
  (ck ((a0.2.2.2.2.1.length:Int) - 1)).bind λr=>
  (aQ [s,r,(a0.2.2.2.2.1.length:Int)] h).bind λl=>
  (dE k u 0 l).bind λx=>
  if¬(x=true) then(some (.error (none,0,3))) else((ck (c+1)).bind λj=>
  dw k a0 h e n j)) else(some (.ok ()))
def cP(k:Nat)(a0:ae)(a2:(List Int))(a3:(List Int))(a4:(List Int)):Nat->Int->Option (Except ((Option ae)×Int×Int) Unit)
 |0,_=>none
 |n+1,c=>
  if c < ([a2,a3,a4].length:Int) then(bE (α:=Unit) ((aQ [a2,a3,a4] c).bind λj=>
  dw k a0 c j k 0) (λe=>some (.error e)) λ_=>
  (ck (c+1)).bind λh=>
  cP k a0 a2 a3 a4 n h) else(some (.ok ()))
def jy(k:Nat)(a0:ae)(a1:(List Int))(a2:(List Int))(a3:(List Int))(a4:(List Int)):Option ((Option ae)×Int×Int):=
 (mj k a0).bind λr2=>
 if¬(r2=0) then(some (none,0,r2)) else(bE (α:=Int) (eP k a0 a1 k (0,0)) (some) λx3=>
 bE (α:=Unit) (cP k a0 a2 a3 a4 k 0) (some) λ_=>
 (iJ k a0).bind λe=>
 f8 e (none) (λc=>(ew k c).bind λh=>
 some (some c,x3,0)))
theorem lI(k:Nat)(a0:ae)(a1:(List Int))(a2:(List Int))(a3:(List Int))(a4:(List Int))(r:(Option ae)×Int×Int)(h:jy k a0 a1 a2 a3 a4=some r):
 bY (dV Tryz.prog) 37 [.rep ay a0,.rep Tl a1,.rep Tl a2,.rep Tl a3,.rep Tl a4] [] (λz:Nat×Nat=>(bM [Jg r.1 z.1,.eq (.int .u8 r.2.1),I r.2.2],Jf r.1 λq=>pW q z.1 z.2 k)):=by
 unfold jy at h
 replace h:=bu h
 refine bY.of 95 Tryz.func37 rfl Tryz.ntmps37 rfl λS w0=>?_
 refine sr ?_
 refine bx λb1=>?_
 refine cq ?_
 refine cq ?_
 refine cq ?_
 refine nt ?_
 refine am ?_
 refine sr ?_
 refine lo jP ?_
 obtain⟨r2,Uf,h⟩:=aa h
 have Ug:=wT k a0 r2 Uf
 refine ja (aA [.tmp 22] rfl rfl RJ rfl Ug) ?_
 refine aq ?_
 refine nt ?_
 refine sr ?_
 refine mq ?_
 refine jb (cG rfl) ?_
 refine nt ?_
 refine cn h (λh=>?_) (λh=>?_)
 .
  refine sr (mq ?_);refine cq ?_;refine cq ?_;refine aq (nt (rx ?_));cases h;exact aR (0,0) [.eq (.pointer none),_,_] 0 ⟨rfl,rfl,rfl,trivial⟩ rfl
 .
  refine sk (sr (cq (nt ?_)));refine dq (Z:=Unit) (α:=Int) (λz4 x3=>[(2,.rep Tl a2),(3,.rep Tl a3),(4,.rep Tl a4),(5,Pt b1),(14,.eq (.int .u8 x3))]) (λz4 x3=>[.obj b1 26 (.rep ay a0)]) (λe=>e=r) h (λe h=>Option.some.inj h) (λK hR h=>?_) (λz4 x3 h=>?_)
  .refine sr (mq ?_);refine ol fD ?_;refine ff rfl ?_;refine nt (ak (aK (λz6 y5=>[(1,.rep Tl a1),(2,.rep Tl a2),(3,.rep Tl a3),(4,.rep Tl a4),(5,Pt b1),(14,.eq (.int .u8 y5.1)),(27,.rep Tl a1),(28,I (a1.length:Int)),(29,I y5.2)]) (λz6 y5=>[.obj b1 26 (.rep ay a0)]) (eP k a0 a1) k () (0,0) (λ_=>rfl) h (SE.fin [0] ⟨rfl,rfl,rfl,rfl,rfl,rfl,rfl,rfl,rfl,trivial⟩ rfl) (λn z6 y5 h=>?_)));unfold eP at h;refine sr (jb (ba rfl) ?_);refine nt (am (ci h (λh=>?_) (λh=>?_)))
   .refine sk (am (ak (sr (mq ?_))));obtain⟨x7,Ud,h⟩:=aa h;refine jb (aW (t:=Ti) rfl fD cJ Ud) ?_;refine ja (av (t:=Ti) rfl cJ rfl) ?_;refine aq ?_;refine aq (nt (am (sr ?_)));refine mq ?_;refine fl gC ?_;refine lo cJ ?_;obtain⟨x8,Uc,h⟩:=aa h;refine jb (eG rfl Uc) ?_;obtain⟨r9,Ue,h⟩:=aa h;refine jc (aA [.tmp 34,.const (.int .i64 (0)),.tmp 37] rfl rfl xm rfl (dL k x7 0 x8 r9 Ue)) ?_;refine ja (iY rfl) ?_;refine nt (cw h (λh=>?_) (λh=>?_))
    .refine sr (cq ?_);refine cq ?_;refine cq (nt (rx (br (bD (bG ?_)))));obtain rfl:=hR _ h;exact aR (0,0) [.eq (.pointer none),_,_] 0 ⟨rfl,rfl,rfl,trivial⟩ rfl
    .refine sk (am (aL (Z:=Unit) (α:=Bool) (λO y=>[(1,.rep Tl a1),(2,.rep Tl a2),(3,.rep Tl a3),(4,.rep Tl a4),(5,Pt b1),(14,.eq (.int .u8 y5.1)),(16,I x7),(27,.rep Tl a1),(28,I (a1.length:Int)),(29,I y5.2),(50,.eq (.bool y))]) (λO y=>[.obj b1 26 (.rep ay a0)]) h (λK h=>?_) (λO y h=>?_)))
     .refine ab (mq ?_);refine jb (mf rfl) ?_;refine mq ?_;refine an (s:=42) rfl (λhb=>?_) (λhb=>?_)
      .replace h:=be (gV hb) h;refine gm ?_;refine gm ?_;refine gm ?_;obtain⟨Uj,TO,h⟩:=aa h;refine gb (eG rfl TO) ?_;obtain⟨T8,TN,h⟩:=aa h;refine gb (aW (t:=Ti) rfl fD cJ TN) ?_;refine ga (av (t:=Ti) rfl cJ rfl) ?_;refine gb (BK rfl) ?_;refine pt (nl ?_);exact jz ((),decide (x7≤T8)) h [0]
      .replace h:=aC (gW hb) h;iterate 7 refine gn ?_
       refine pf (nl ?_);exact jz ((),false) h [0]
     .refine cv h (λh=>?_) (λh=>?_)
      .refine sr (cq ?_);refine cq ?_;refine cq (nt (rx (br (bD (bG ?_)))));obtain rfl:=hR _ h;exact aR (0,0) [.eq (.pointer none),_,_] 0 ⟨rfl,rfl,rfl,trivial⟩ rfl
      .refine sk (ab ?_);iterate 2 refine mq ?_
       obtain⟨Y,TU,h⟩:=aa h;refine jb (aA [.tmp 51,.tmp 52] rfl rfl NH rfl (jW k y5.1 x7 Y TU)) ?_;refine aq (aI (aZ (tn (ab ?_))));obtain⟨TZ,TM,h⟩:=aa h;refine jb (bg rfl TM) ?_;refine mq (nl ?_);exact jz ((),(Y,TZ)) h [0]
   .refine xa ?_;exact jz ((),y5.1) h [0]
  .refine dq (Z:=Unit) (α:=Unit) (λM U=>[(5,Pt b1),(14,.eq (.int .u8 x3))]) (λM U=>[.obj b1 26 (.rep ay a0)]) (λe=>e=r) h (λe h=>Option.some.inj h) (λK hR h=>?_) (λM U h=>?_)
   .refine sr ?_;iterate 3 refine mq ?_
    refine jc (bh (t:=Tl) [(.tmp 55,_),(.tmp 56,_),(.tmp 57,_)] [a2,a3,a4] rfl rfl oR (.cons rfl .rep (.cons rfl .rep (.cons rfl .rep .nil))) rfl rfl) ?_;refine ol qL ?_;refine ff rfl ?_;refine nt (ak (aK (λJ c=>[(5,Pt b1),(14,.eq (.int .u8 x3)),(58,.rep (.slice Tl) [a2,a3,a4]),(59,I ([a2,a3,a4].length:Int)),(60,I c)]) (λJ c=>[.obj b1 26 (.rep ay a0)]) (cP k a0 a2 a3 a4) k () 0 (λ_=>rfl) h (SE.fin [0] ⟨rfl,rfl,rfl,rfl,rfl,trivial⟩ rfl) (λn J c h=>?_)));unfold cP at h;refine sr (jb (ba rfl) ?_);refine nt (am (ci h (λh=>?_) (λh=>?_)))
    .refine sk (dq (Z:=Unit) (α:=Unit) (λE Q=>[(5,Pt b1),(14,.eq (.int .u8 x3)),(58,.rep (.slice Tl) [a2,a3,a4]),(59,I ([a2,a3,a4].length:Int)),(60,I c)]) (λE Q=>[.obj b1 26 (.rep ay a0)]) (λe=>e=r) h (λe h=>hR e h) (λK hR h=>?_) (λE Q h=>?_))
     .refine ak (sr (mq ?_));obtain⟨x,TL,h⟩:=aa h;refine jb (aW (t:=Tl) rfl qL gY TL) ?_;refine ja (av (t:=Tl) rfl gY rfl) ?_;refine aq ?_;refine aq (nt (sr ?_));refine mq ?_;refine ol fD ?_;refine ff rfl ?_;refine nt (ak (aK (λD u=>[(5,Pt b1),(14,.eq (.int .u8 x3)),(17,I c),(58,.rep (.slice Tl) [a2,a3,a4]),(59,I ([a2,a3,a4].length:Int)),(60,I c),(65,.rep Tl x),(66,I (x.length:Int)),(67,I u)]) (λD u=>[.obj b1 26 (.rep ay a0)]) (dw k a0 c x) k () 0 (λ_=>rfl) h (SE.fin [0] ⟨rfl,rfl,rfl,rfl,rfl,rfl,rfl,rfl,rfl,trivial⟩ rfl) (λn D u h=>?_)));unfold dw at h;refine sr (jb (ba rfl) ?_);refine nt (am (ci h (λh=>?_) (λh=>?_)))
      .refine sk (am (ak (sr ?_)));obtain⟨TY,TK,h⟩:=aa h;refine jb (aW (t:=Ti) rfl fD cJ TK) ?_;refine ja (av (t:=Ti) rfl cJ rfl) ?_;refine aq (nt (sr ?_));refine mq ?_;refine fl gC ?_;refine lo cJ ?_;obtain⟨Ui,zz,h⟩:=aa h;refine jb (eG rfl zz) ?_;refine fl dZ ?_;refine lo jQ ?_;refine ol xF ?_;obtain⟨Uh,qt,h⟩:=aa h;refine jb (eG rfl qt) ?_;refine fl dZ ?_;refine lo jQ ?_;refine ol xF ?_;refine jc (DK rfl Qk cJ OD) ?_;refine mq ?_;obtain⟨TX,mw,h⟩:=aa h;refine jb (nK (t:=Ti) rfl Qk cJ rfl rfl (λ_=>rfl) mw) ?_;obtain⟨Ua,TS,h⟩:=aa h;refine jc (aA [.tmp 71,.const (.int .i64 (0)),.tmp 84] rfl rfl xm rfl (dL k TY 0 TX Ua TS)) ?_;refine ja (iY rfl) ?_;refine nt (cw h (λh=>?_) (λh=>?_))
       .refine sr (cq ?_);refine cq ?_;refine cq (nt (aD (br (bD (br (bD (bG ?_)))))));obtain rfl:=hR _ h;exact aR (0,0) [.eq (.pointer none),_,_] 0 ⟨rfl,rfl,rfl,trivial⟩ rfl
       .refine bp (aZ (tn (ab ?_)));obtain⟨TW,mc,h⟩:=aa h;refine jb (bg rfl mc) ?_;refine mq (nl ?_);exact jz ((),TW) h [0]
      .refine fg (bK (bK (cX (bn ?_))));exact jz ((),()) h [0]
     .refine ab ?_;obtain⟨TV,gw,h⟩:=aa h;refine jb (bg rfl gw) ?_;refine mq (nl ?_);exact jz ((),TV) h [0]
    .refine xa ?_;exact jz ((),()) h [0]
   .refine sr (lo jP ?_);obtain⟨X,TR,h⟩:=aa h;have j:=ng k a0 X TR;rcases hr:X with _ |Ub
    .rw [hr] at h j;replace h:=vb h;refine aN (Δ:=[]) (F:=_) (λ_ _ _=>ag rfl _) rfl rfl (aA [.tmp 89] rfl rfl Kp rfl j) ⟨rfl,trivial⟩ λ_=>?_;cases h
    .rw [hr] at h j;replace h:=va h;refine aN (Δ:=[]) (F:=_) (λ_ _ _=>ag rfl _) rfl rfl (aA [.tmp 89] rfl rfl Kp rfl j) ⟨rfl,trivial⟩ λl=>?_;refine aq (nt (sr ?_));refine mq ?_;obtain⟨T9,TP,h⟩:=aa h;refine fr 1 ?_;refine fr 1 ?_;refine aN (Δ:=[_,_]) (F:=_) (λ_ _ _=>ag rfl _) rfl rfl (bb [.tmp 91] rfl rfl RI rfl (pC k Ub l.1 l.2 T9 TP)) ⟨rfl,trivial⟩ λ_=>?_;refine nt (sr ?_);iterate 2 refine mq ?_
     refine aq ?_;refine aq ?_;refine cq (nt (aD ?_));cases h;exact aR (l.1,l.2) [.eq (.pointer (some ⟨l.1,0,none⟩)),_,_] 2 ⟨rfl,rfl,rfl,trivial⟩ rfl
def cy(k:Nat)(a0:ae)(a2:Int)(r1:(List (List Int))):Nat->Int->Option Bool
 |0,_=>none
 |n+1,y3=>
  if y3 < (a0.2.2.2.2.2.length:Int) then((aQ a0.2.2.2.2.2 y3).bind λx5=>
  (((eO k a2 y3).bind λr9=>
  if¬(r9=true) then((aQ r1 x5.2.1).bind λh=>
  (aQ h x5.1).bind λe=>
  some (!decide ((decide (a0.2.2.1≤e))=x5.2.2))) else(some false)):Option (Bool)).bind λx7=>
  if x7=true then(some false) else((ck (y3+1)).bind λc=>
  cy k a0 a2 r1 n c)) else(some true)
def gd(k:Nat)(a0:ae)(a1:Int)(a2:Int):Option Bool:=
 (lB k a0 a1).bind λr1=>
 cy k a0 a2 r1 k 0
theorem nQ(k:Nat)(a0:ae)(c z_a0:Nat)(a1:Int)(a2:Int)(r:Bool)(h:gd k a0 a1 a2=some r):
 Bw (dV Tryz.prog) 109 [Pt c,.eq (.int .u8 a1),.eq (.int .u8 a2)] [.obj c 125 (aU a0 z_a0),.inv z_a0 (bZ k a0)] (.iface 156 (.agg #[])) r:=by
 unfold gd at h
 replace h:=bu h
 refine Bw.of 48 Tryz.func109 rfl Tryz.ntmps109 rfl λS w0=>?_
 refine sr ?_
 iterate 2 refine mq ?_
 obtain⟨r1,E,h⟩:=aa h
 have J:=oG k a0 c z_a0 a1 r1 E
 refine fr 1 ?_
 refine fr 1 ?_
 refine aN (Δ:=[_,_]) (F:=_) (λ_ _ _=>ag rfl _) rfl rfl (bb [.tmp 9,.tmp 10] rfl rfl D8 rfl J) ⟨rfl,rfl,trivial⟩ λ_=>?_
 refine bi rfl rfl rfl (bJ rfl EO HQ) trivial λb2=>?_
 refine aV rfl rfl (aS rfl Fv rfl rfl rfl) ⟨rfl,rfl,trivial⟩ ?_
 refine eZ (jh (t:=(.arr 7 Tr)) (x:=r1) [6] .rep ⟨rfl,trivial⟩) ?_
 refine nt ?_
 refine sr ?_
 refine mq ?_
 refine ja (cN rfl) ?_
 refine fl gQ ?_
 refine fl xh ?_
 refine lo IW ?_
 refine ol Qj ?_
 refine ff rfl ?_
 refine nt ?_
 refine ak ?_
 refine aK (λz4 y3=>[(0,Pt c),(2,.eq (.int .u8 a2)),(6,.at (.arr 7 Tr) r1),(16,Rs bL a0.2.2.2.2.2),(17,I (a0.2.2.2.2.2.length:Int)),(18,I y3)]) (λz4 y3=>[.obj c 125 (aU a0 z_a0),.inv z_a0 (bZ k a0)]) (cy k a0 a2 r1) k () 0 (λ_=>rfl) h (SE.fin [0,1] ⟨rfl,rfl,rfl,rfl,rfl,rfl,trivial⟩ rfl) (λn z4 y3 h=>?_)
 unfold cy at h
 refine sr ?_
 refine jb (ba rfl) ?_
 refine nt ?_
 refine am ?_
 refine ci h (λh=>?_) (λh=>?_)
 .
  refine sk (am (ak (sr (mq ?_))));obtain⟨x5,y,h⟩:=aa h;refine jb (aW (t:=bL) rfl Qj wy y) ?_;refine ja (av (t:=bL) rfl wy rfl) ?_;refine bi rfl rfl rfl (bJ rfl IC N3) trivial λb6=>?_;refine aq ?_;refine aV rfl rfl (aS rfl wy rfl rfl rfl) ⟨rfl,rfl,trivial⟩ ?_;refine nt (aL (Z:=Unit) (α:=Bool) (λz8 x7=>[(0,Pt c),(2,.eq (.int .u8 a2)),(6,.at (.arr 7 Tr) r1),(16,Rs bL a0.2.2.2.2.2),(17,I (a0.2.2.2.2.2.length:Int)),(18,I y3),(44,.eq (.bool x7))]) (λz8 x7=>[.obj c 125 (aU a0 z_a0),.inv z_a0 (bZ k a0)]) h (λK h=>?_) (λz8 x7 h=>?_))
  .refine cV ?_;refine dm ?_;refine dm ?_;obtain⟨r9,D,h⟩:=aa h;refine db (aA [.tmp 23,.tmp 24] rfl rfl Ht rfl (gx k a2 y3 r9 D)) ?_;refine da (iY rfl) ?_;refine xO rfl rfl rfl (bS rfl) ⟨rfl,trivial⟩ (λhb=>?_) (λhb=>?_)
   .replace h:=be (AA hb) h;refine dW rfl rfl rfl rfl rfl (aJ rfl Hm) ⟨rfl,rfl,trivial⟩ ?_;refine kA 0 rfl rfl rfl rfl rfl rfl (aE rfl cJ oU rfl) ⟨rfl,rfl,trivial⟩ ?_;refine dW rfl rfl rfl rfl rfl (aJ rfl Hn) ⟨rfl,rfl,trivial⟩ ?_;refine kA 0 rfl rfl rfl rfl rfl rfl (aE rfl cJ oU rfl) ⟨rfl,rfl,trivial⟩ ?_;obtain⟨M,l,h⟩:=aa h;refine dW rfl rfl rfl rfl rfl (cp (t:=Tr) rfl Iy iV l) ⟨rfl,rfl,rfl,trivial⟩ ?_;obtain⟨u,j,h⟩:=aa h;refine dW rfl rfl rfl rfl rfl (cp (t:=Ti) rfl Bm cJ j) ⟨rfl,rfl,rfl,trivial⟩ ?_;refine dW rfl rfl rfl rfl rfl (av (t:=Ti) rfl cJ rfl) ⟨rfl,rfl,trivial⟩ ?_;refine dW rfl rfl rfl rfl rfl (bS rfl) ⟨rfl,rfl,trivial⟩ ?_;refine dW rfl rfl rfl rfl rfl (cN rfl) ⟨rfl,rfl,trivial⟩ ?_;refine dW rfl rfl rfl rfl rfl (aJ rfl gQ) ⟨rfl,rfl,trivial⟩ ?_;refine dW rfl rfl rfl rfl rfl (aJ rfl xi) ⟨rfl,rfl,trivial⟩ ?_;refine kA 1 rfl rfl rfl rfl rfl rfl (aE rfl cJ oU rfl) ⟨rfl,rfl,trivial⟩ ?_;refine dW rfl rfl rfl rfl rfl (gq rfl) ⟨rfl,rfl,rfl,trivial⟩ ?_;refine dW rfl rfl rfl rfl rfl (aJ rfl NF) ⟨rfl,rfl,trivial⟩ ?_;refine kA 0 rfl rfl rfl rfl rfl rfl (aE rfl Tj oU rfl) ⟨rfl,rfl,trivial⟩ ?_;refine df eU ?_;refine gb (Nh rfl U4) ?_;refine pt (nl ?_);exact jz ((), !decide ((decide (a0.2.2.1≤u))=x5.2.2)) h [1,2]
   .replace h:=aC (tN hb) h;iterate 15 refine dg ?_
    refine df eU ?_;refine gn ?_;refine pf (nl ?_);exact jz ((),false) h [1,2]
  .refine cv h (λh=>?_) (λh=>?_)
   .refine ab (co rfl (Gi rfl N9 OC) trivial ?_);refine ja (Gf rfl N9) ?_;refine EG rfl rfl rfl rfl ?_;refine zJ ?_;refine sd ?_;refine sd ?_;refine zJ ?_;refine ce (SE.fin (Γ':=[]) [0,1] trivial rfl) ?_;cases h;exact K8
   .refine bp (aZ (tn (ab ?_)));obtain⟨s,e,h⟩:=aa h;refine jb (bg rfl e) ?_;refine mq (nl ?_);exact jz ((),s) h [0,1]
 .
  refine fg (bK (bK (cX (jM ?_))));refine ce (SE.fin (Γ':=[]) [0,1] trivial rfl) ?_;cases h;exact aR () [] 2 trivial rfl
def c8(k:Nat)(a0:ae)(a1:Int)(a2:Int):Option Bool:=gd k a0 a1 a2
theorem Lx:Oa Tryz.prog 156 (.agg #[]):=⟨⟨_,N9⟩,λw=>by kernel_rfl⟩
theorem Hv:∀(S:FS) (w:World),(A.rep (.arr 0 Ti) []).holds S w (.agg #[]):=λ_ _=>⟨[],⟨rfl,rfl⟩,rfl⟩
theorem Ln:∀w,(zeroValue 156).run Tryz.prog w= .ok (.agg #[]) w:=λw=>by kernel_rfl
theorem LV:∀S w,(A.cells S w (.rep (.arr 0 Ti) []) (Value.cells (.agg #[])).toList):=λ_ _=>⟨rfl,rfl⟩
theorem LA:d5 Tryz.prog 156 0 true:=⟨λw=>by kernel_rfl,λw=>by kernel_rfl⟩
theorem P8:ah Tryz.prog 108:=ah.of Tryz.func108 (by kernel_rfl) (by kernel_rfl)
theorem LL:ah Tryz.prog 109:=ah.of Tryz.func109 (by kernel_rfl) (by kernel_rfl)
theorem IV:d5 Tryz.prog 4 1 false:=⟨λw=>by kernel_rfl,λw=>by kernel_rfl⟩
theorem QW:∀w,(zeroValue 4).run Tryz.prog w= .ok (.bool false) w:=λw=>by kernel_rfl
theorem Sz:∀S w,(A.cells S w (.eq (.bool false)) (Value.cells (.bool false)).toList):=λ_ _=>⟨rfl,rfl⟩
theorem zo:xP Tryz.prog 108 (.iface 156 (.agg #[])) 4 (.bool false):=by
 refine⟨P8,λM e0=>?_,λM e0=>?_⟩
 .refine lx.of (M:=M) (m:=.returning) (m1:=.returning) (val:=.nilIface) Tryz.func108 rfl rfl (by decide) rfl rfl (by decide) (λρ=>rfl) (λfr b cs hb hm=>FT hb hm rfl) (.inl rfl) λb S w0=>?_;refine ja (Jj Hv rfl Lx) ?_;refine mq ?_;refine xr ?_;refine xr ?_;refine bi rfl rfl rfl (bJ rfl Ln LV) trivial λb1=>?_;refine aV rfl rfl (aS rfl LA rfl rfl rfl) ⟨rfl,rfl,trivial⟩ ?_;refine aq (nt (sr ?_));refine mq (nt ?_);refine iT rfl (λhb=>by cases hb) (λhb=>?_);refine bp (jM ?_);refine ce (SE.fin (Γ':=[]) [1] trivial rfl) ?_;exact aR () [] 1 trivial rfl
 .refine lx.of (M:=M) (m:=.panicking (gZ (.iface 156 (.agg #[])) false)) (m1:=.panicking (gZ (.iface 156 (.agg #[])) true)) (val:=.iface 156 (.agg #[])) Tryz.func108 rfl rfl (by decide) rfl rfl (by decide) (λρ=>rfl) (λfr b cs hb hm=>FR hb hm) (.inr ⟨_,rfl⟩) λb S w0=>?_;refine ja (Ji Hv rfl Lx) ?_;refine mq ?_;refine xr ?_;refine xr ?_;refine bi rfl rfl rfl (bJ rfl Ln LV) trivial λb1=>?_;refine aV rfl rfl (aS rfl LA rfl rfl rfl) ⟨rfl,rfl,trivial⟩ ?_;refine aq (nt (sr ?_));refine mq (nt ?_);refine iT rfl (λhb=>?_) (λhb=>by cases hb);refine ab (fr 1 ?_);refine aV rfl rfl (aS rfl IV rfl rfl rfl) ⟨rfl,rfl,trivial⟩ ?_;refine aI (jM ?_);refine ce (SE.fin (Γ':=[]) [0] trivial rfl) ?_;exact aR () [] 1 trivial rfl
theorem nn(k:Nat)(a0:ae)(c z_a0:Nat)(a1:Int)(a2:Int)(r:Bool)(h:c8 k a0 a1 a2=some r):
 bY (dV Tryz.prog) 74 [Pt c,.eq (.int .u8 a1),.eq (.int .u8 a2)] (pW a0 c z_a0 k) (λ_:Unit=>(bM [.eq (.bool r)],pW a0 c z_a0 k)):=by
 have cr:=nQ k a0 c z_a0 a1 a2 r h
 refine zM 12 Tryz.func74 rfl Tryz.ntmps74 rfl λS w0=>?_
 refine sr ?_
 refine bi rfl rfl rfl (bJ rfl QW Sz) trivial λb6=>?_
 refine nt ?_
 refine sr ?_
 refine ja (rl [] [.tmp 6] [] [(Pv b6)] rfl rfl rfl) ?_
 refine Ie rfl rfl rfl rfl rfl ?_
 refine nt ?_
 refine sr ?_
 iterate 3 refine mq ?_
 refine fr 2 ?_
 refine fr 2 ?_
 cases r with
 |false=>
  refine If (Ss:=[Pt c,.eq (.int .u8 a1),.eq (.int .u8 a2)]) (Δ:=pW a0 c z_a0 k) (F:=[.obj b6 4 (.eq (.bool false))]) [.tmp 8,.tmp 9,.tmp 10] rfl rfl rfl rfl LL ⟨rfl,rfl,rfl,trivial⟩ cr ?_;refine sd ?_;refine ce (SE.fin (Γ':=[(6,_)]) [2,0,1] ⟨rfl,trivial⟩ rfl) ?_;refine EH zo ?_;refine ce (SE.fin (Γ':=[(6,_)]) [1,2,0] ⟨rfl,trivial⟩ rfl) ?_;exact aR () [.eq (.bool false)] 2 ⟨⟨_,_,_,_,_,rfl,(.tail _ (.tail _ (.head _))),IV,(λ_=>rfl),rfl⟩,trivial⟩ rfl
 |true=>
  refine aN (Δ:=pW a0 c z_a0 k) (F:=[.obj b6 4 (.eq (.bool false))]) (λ_ _ _=>ag rfl _) rfl rfl (bb [.tmp 8,.tmp 9,.tmp 10] rfl rfl LL rfl cr.ok) ⟨rfl,rfl,rfl,trivial⟩ λ_=>?_;refine nt (sr (fr 2 ?_));refine aV rfl rfl (aS rfl IV rfl rfl rfl) ⟨rfl,rfl,trivial⟩ ?_;refine nt (aD (K7 zo ?_));refine ce (SE.fin (Γ':=[(6,_)]) [1,2,0] ⟨rfl,trivial⟩ rfl) ?_;exact aR () [.eq (.bool true)] 2 ⟨⟨_,_,_,_,_,rfl,(.tail _ (.tail _ (.head _))),IV,(λ_=>rfl),rfl⟩,trivial⟩ rfl
def er(k:Nat)(a0:ae)(a1:Int):Option (List Int):=
 (jB k (qe (λ(y5:(List Int)) (p7:Int)=>
  (c8 k a0 p7 a1).bind λr9=>
  if r9=true then((cM (bW (length y5+length [p7]))).bind λ_=>
  some (y5++[p7],true)) else(some (y5,true)))) a0.1 (([]:(List Int)),false)).bind λr8=>
 if r8.2=true then(none) else(some r8.1)
theorem j8(k:Nat)(a0:ae)(c z_a0:Nat)(a1:Int)(r:(List Int))(h:er k a0 a1=some r):
 bY (dV Tryz.prog) 38 [Pt c,.eq (.int .u8 a1)] [.obj c 125 (aU a0 z_a0),.inv z_a0 (bZ k a0)] (λ_:Unit=>(bM [.rep (.slice (.int .u8)) r],[.obj c 125 (aU a0 z_a0),.inv z_a0 (bZ k a0)])):=by
 unfold er at h
 replace h:=bu h
 refine uD 23 Tryz.func38 rfl Tryz.ntmps38 rfl λS w0=>?_
 refine sr ?_
 refine bx λb1=>?_
 refine bx λb2=>?_
 refine cq ?_
 refine nt ?_
 refine sr ?_
 refine bi rfl rfl rfl (bJ rfl IB KN) trivial λb3=>?_
 refine nt ?_
 refine am ?_
 refine sr ?_
 refine fr 2 ?_
 refine lo IU ?_
 refine ja (cN rfl) ?_
 refine fl gQ ?_
 refine fl gC ?_
 refine fr 3 ?_
 refine lo cJ ?_
 refine bi rfl rfl rfl (aA [.tmp 11] rfl rfl PS rfl (qz a0.1)) ⟨rfl,trivial⟩ λb4=>?_
 refine nt ?_
 refine ak ?_
 refine jN (SE.nil 73 (.int .u8)) ?_
 refine dS 6 rfl ?_
 refine dS 6 rfl ?_
 refine dS 2 rfl ?_
 refine dS 6 rfl ?_
 refine dS 6 rfl ?_
 refine dS 6 rfl ?_
 refine dS 6 rfl ?_
 obtain⟨r8,s,h⟩:=aa h
 refine qO (Δ:=[.obj b4 3 (I a0.1),.obj c 125 (aU a0 z_a0),.obj b1 72 (Pt c),.obj b3 76 (.eq (.slice none 0 0)),.sl (.slice none 0 0) 73 (.int .u8) ([]:(List Int)),.obj b2 73 (.eq (.int .u8 a1)),.inv z_a0 (bZ k a0)]) (F:=[]) (X:=Value) (J:=λ_=>Oy r8.2) (E:=λz6=>[.obj b4 3 (I a0.1),.obj c 125 (aU a0 z_a0),.obj b1 72 (Pt c),.obj b3 76 (.eq z6),.sl z6 73 (.int .u8) r8.1,.obj b2 73 (.eq (.int .u8 a1)),.inv z_a0 (bZ k a0)]) (r0:=λ_=>.tup .any) rfl rfl LN (λrec hp ha hb hs hpe hN hv l=>?_) (λdl z6=>ti (λhj=>?_) (λhj=>?_))
 .
  rcases rec with⟨st0,pe0,fn0,tm0,ps0,as0,bd0,df0⟩;dsimp only at hp ha hb hs hpe hN hv;subst hp hs hpe;have vN:zD tm0 [(2,Pt b1),(3,Pt b2),(5,Pt b3)]:=⟨congrArg A.eq (hv 2 _ rfl).symm,congrArg A.eq (hv 3 _ rfl).symm,congrArg A.eq (hv 5 _ rfl).symm,trivial⟩;refine bY.pick (M:=(dV Tryz.prog)) [1,0,2,3,4,5,6,7] [1,0,2,3,4,5,6,7] (nR (λ(z6:Value) (q:(List Int)×Bool)=>[.raw l (.loop (jT ⟨.ready,none,fn0,tm0, #[13],as0,bd0,df0⟩ (Oy q.2))),.obj c 125 (aU a0 z_a0),.obj b1 72 (Pt c),.obj b3 76 (.eq z6),.sl z6 73 (.int .u8) q.1,.obj b2 73 (.eq (.int .u8 a1)),.inv z_a0 (bZ k a0)]) l (qe (λ(y5:(List Int)) (p7:Int)=>
  (c8 k a0 p7 a1).bind λr9=>
  if r9=true then((cM (bW (length y5+length [p7]))).bind λ_=>
  some (y5++[p7],true)) else(some (y5,true)))) k a0.1 b4 (λz6 q p r' h=>?_) (.slice none 0 0) (([]:(List Int)),false) r8 s) rfl (λ_=>rfl) (λ_=>rfl)
  obtain⟨rq,hq,h2,rfl⟩:=tj h;obtain⟨y5,b5⟩:=q;obtain rfl:b5=false:=hq;replace h:=bu h2;obtain⟨p7,hpv⟩:∃x,x=p:=⟨_,rfl⟩;subst hpv;refine YT.pick (R':=(λz6:Value=>(.eq (.bool rq.2),[.raw l (.loop (jT ⟨.ready,none,fn0,tm0, #[13],as0,bd0,df0⟩ (Oy (!rq.2)))),.obj c 125 (aU a0 z_a0),.obj b1 72 (Pt c),.obj b3 76 (.eq z6),.sl z6 73 (.int .u8) rq.1,.obj b2 73 (.eq (.int .u8 a1)),.inv z_a0 (bZ k a0)]))) [0,1,2,3,4,5,6] [0,1,2,3,4,5,6] (HS ha hb (N:=23) (Γ:=[(2,Pt b1),(3,Pt b2),(5,Pt b3)]) rfl hN (by decide) vN (λS w=>?_)) rfl (λ_=>rfl) (λ_=>rfl);refine ab (aq (nl ?_));refine zK rfl rfl ?_;refine ak (sr (fr 2 ?_));refine lo IU ?_;refine mq ?_;refine fr 5 ?_;refine lo pn ?_;obtain⟨r9,n,h⟩:=aa h;refine fr 6 ?_;refine fr 4 ?_;refine aN (Δ:=[_,_]) (F:=_) (λ_ _ _=>ag rfl _) rfl rfl (bb [.tmp 14,.tmp 15,.tmp 16] rfl rfl RH rfl (nn k a0 c z_a0 p7 a1 r9 n)) ⟨rfl,rfl,rfl,trivial⟩ λ_=>?_;refine nt (cv h (λh=>?_) (λh=>?_))
  .refine ab (fr 5 ?_);refine lo wx ?_;refine mq ?_;refine ja (bh (t:=(.int .u8)) [(.tmp 19,_)] [p7] rfl rfl I6 (.cons rfl .int .nil) rfl rfl) ?_;obtain⟨u,e,h⟩:=aa h;refine fr 6 ?_;refine eC rfl rfl rfl (cL rfl rfl I6 (ap e)) ⟨rfl,rfl,trivial⟩ λj=>?_;refine uy λo12=>?_;refine fr 1 ?_;refine aV rfl rfl (aS rfl wx o12 rfl rfl) ⟨rfl,rfl,trivial⟩ ?_;refine aI (aZ (bz 3 rfl ?_));refine bz 4 rfl ?_;refine bz 3 rfl ?_;refine bz 3 rfl ?_;refine bz 5 rfl ?_;refine bz 5 rfl ?_;refine bz 6 rfl ?_;cases h;exact oO j 6 rfl
  .refine bp (aZ (bz 1 rfl ?_));refine bz 2 rfl ?_;refine bz 6 rfl ?_;refine bz 6 rfl ?_;refine bz 5 rfl ?_;refine bz 5 rfl ?_;refine bz 6 rfl ?_;cases h;exact oO z6 6 rfl
 .
  replace h:=aC (o5 hj) h;refine aZ (tn (sr (fr 4 ?_)));refine lo wx ?_;refine aq (nt (aD ?_));refine bz 5 rfl ?_;refine ce (pU (off:=0) [4,22] ⟨rfl,rfl,trivial⟩ rfl rfl) ?_;refine bz 1 rfl ?_;refine Da ?_;refine ce (SE.fin (Γ':=[(4,_)]) [2,5,0,1,3,4] ⟨rfl,trivial⟩ rfl) ?_;cases h;exact aR () [_] 2 ⟨rfl,trivial⟩ rfl
 .
  replace h:=be (o0 hj) h;cases h
def eh(k:Nat)(r7:(List Int)):Nat->((List (List Int))×Int)->Option (List (List Int))
 |0,_=>none
 |n+1,y8=>
  if y8.2 < (r7.length:Int) then((aQ r7 y8.2).bind λh=>
  (fO k h).bind λc=>
  (cM (bW (length y8.1+length [c]))).bind λ_=>
  (ck (y8.2+1)).bind λe=>
  eh k r7 n (y8.1++[c],e)) else(some y8.1)
def iq(k:Nat)(a0:ae):Option ((List (List Int))×Int):=
 (jy k a0 ([]:(List Int)) ([]:(List Int)) ([]:(List Int)) ([]:(List Int))).bind λr2=>
 f8 r2.1 (if¬(r2.2.2=0) then(some (([]:(List (List Int))),r2.2.2)) else(none)) (λq3=>if¬(r2.2.2=0) then(some (([]:(List (List Int))),r2.2.2)) else((((er k q3 0).bind λr7=>
 eh k r7 k (([]:(List (List Int))),0)):Option ((List (List Int)))).bind λx5=>
 some (x5,0)))
theorem o8(k:Nat)(a0:ae)(r:(List (List Int))×Int)(h:iq k a0=some r):
 bY (dV Tryz.prog) 11 [.rep ay a0] [] (λ_:Unit=>(bM [.rep (.slice Tl) r.1,I r.2],[])):=by
 unfold iq at h
 replace h:=bu h
 refine bY.of 33 Tryz.func11 rfl Tryz.ntmps11 rfl λS w0=>?_
 refine sr ?_
 refine bx λb1=>?_
 refine cq ?_
 refine cq ?_
 refine nt ?_
 refine sr ?_
 refine lo jP ?_
 obtain⟨r2,M,h⟩:=aa h
 have c:=lI k a0 ([]:(List Int)) ([]:(List Int)) ([]:(List Int)) ([]:(List Int)) r2 M
 rcases hr:r2.1 with _ |q3
 .
  rw [hr] at h c;replace h:=vb h;refine aN (Δ:=[]) (F:=_) (λ_ _ _=>ag rfl _) rfl rfl (bR (N:=[(.tmp 11,.rep ay a0),(.const (.slice none 0 0),.eq (.slice none 0 0)),(.const (.slice none 0 0),.eq (.slice none 0 0)),(.const (.slice none 0 0),.eq (.slice none 0 0)),(.const (.slice none 0 0),.eq (.slice none 0 0))]) (bb [.tmp 11,.const (.slice none 0 0),.const (.slice none 0 0),.const (.slice none 0 0),.const (.slice none 0 0)] rfl rfl ze rfl c) λ_ _ _ hn=>⟨hn.1,(aH (t:=Tl) (x:=([]:(List Int))) .nil rfl rfl hn.2.1),(aH (t:=Tl) (x:=([]:(List Int))) .nil rfl rfl hn.2.2.1),(aH (t:=Tl) (x:=([]:(List Int))) .nil rfl rfl hn.2.2.2.1),(aH (t:=Tl) (x:=([]:(List Int))) .nil rfl rfl hn.2.2.2.2.1),trivial⟩) ⟨rfl,rfl,rfl,rfl,rfl,trivial⟩ λ_=>?_;refine mq ?_;refine xr ?_;refine xr ?_;refine xr ?_;refine aq ?_;refine aq ?_;refine aq (nt (am (sr ?_)));refine mq ?_;refine jb (cG rfl) ?_;refine nt (cn h (λh=>?_) (λh=>?_))
  .refine sr (mq ?_);refine cq ?_;refine aq (nt (rx ?_));refine ce (eI (t:=(.slice Tl)) (x:=([]:(List (List Int)))) 2 rfl .nil rfl rfl) ?_;cases h;exact rb
  .cases h
 .
  rw [hr] at h c;replace h:=va h;refine aN (Δ:=[]) (F:=_) (λ_ _ _=>ag rfl _) rfl rfl (bR (N:=[(.tmp 11,.rep ay a0),(.const (.slice none 0 0),.eq (.slice none 0 0)),(.const (.slice none 0 0),.eq (.slice none 0 0)),(.const (.slice none 0 0),.eq (.slice none 0 0)),(.const (.slice none 0 0),.eq (.slice none 0 0))]) (bb [.tmp 11,.const (.slice none 0 0),.const (.slice none 0 0),.const (.slice none 0 0),.const (.slice none 0 0)] rfl rfl ze rfl c) λ_ _ _ hn=>⟨hn.1,(aH (t:=Tl) (x:=([]:(List Int))) .nil rfl rfl hn.2.1),(aH (t:=Tl) (x:=([]:(List Int))) .nil rfl rfl hn.2.2.1),(aH (t:=Tl) (x:=([]:(List Int))) .nil rfl rfl hn.2.2.2.1),(aH (t:=Tl) (x:=([]:(List Int))) .nil rfl rfl hn.2.2.2.2.1),trivial⟩) ⟨rfl,rfl,rfl,rfl,rfl,trivial⟩ λz4=>?_;refine mq ?_;refine xr ?_;refine xr ?_;refine xr ?_;refine aq ?_;refine aq ?_;refine aq (nt (am (sr ?_)));refine mq ?_;refine jb (cG rfl) ?_;refine nt (cn h (λh=>?_) (λh=>?_))
  .refine sr (mq ?_);refine cq ?_;refine aq (nt (rx ?_));refine ce (eI (t:=(.slice Tl)) (x:=([]:(List (List Int)))) 2 rfl .nil rfl rfl) ?_;cases h;exact rb
  .refine sk (sr (cq (nt ?_)));refine aL (Z:=Value) (α:=(List (List Int))) (λz6 x5=>[(7,.eq z6)]) (λz6 x5=>[.sl z6 22 Tl x5,.inv z4.2 (bZ k q3)]) h (λK h=>?_) (λz6 x5 h=>?_)
   .refine sr (mq ?_);obtain⟨r7,J,h⟩:=aa h;refine fr 1 ?_;refine fr 1 ?_;refine aN (Δ:=[_,_]) (F:=_) (λ_ _ _=>ag rfl _) rfl rfl (bb [.tmp 19,.const (.int .u8 (0))] rfl rfl PW rfl (j8 k q3 z4.1 z4.2 0 r7 J)) ⟨rfl,rfl,trivial⟩ λ_=>?_;refine ol zU ?_;refine ff rfl ?_;refine nt (ak (jN (SE.nil 22 Tl) ?_));refine aK (λz9 y8=>[(7,.eq z9),(20,.rep (.slice (.int .u8)) r7),(21,I (r7.length:Int)),(22,I y8.2)]) (λz9 y8=>[.sl z9 22 Tl y8.1,.inv z4.2 (bZ k q3)]) (eh k r7) k (.slice none 0 0) (([]:(List (List Int))),0) (λ_=>rfl) h (SE.fin [0,2] ⟨rfl,rfl,rfl,rfl,trivial⟩ rfl) (λn z9 y8 h=>?_);unfold eh at h;refine sr (jb (ba rfl) ?_);refine nt (am (ci h (λh=>?_) (λh=>?_)))
    .refine sk (am (ak (sr ?_)));obtain⟨D,l,h⟩:=aa h;refine jb (aW (t:=(.int .u8)) rfl zU pn l) ?_;refine ja (av (t:=(.int .u8)) rfl pn rfl) ?_;refine aq (nt (ab ?_));iterate 2 refine mq ?_
     obtain⟨e,u,h⟩:=aa h;refine ja (aA [.tmp 27] rfl rfl NL rfl (jX k D e u)) ?_;refine ja (bh (t:=Tl) [(.tmp 28,_)] [e] rfl rfl oR (.cons rfl .rep .nil) rfl rfl) ?_;obtain⟨O,s,h⟩:=aa h;refine eC rfl rfl rfl (cL rfl rfl oR (ap s)) ⟨rfl,rfl,trivial⟩ λE=>?_;refine aq (aI (aZ (tn (ab ?_))));obtain⟨y,j,h⟩:=aa h;refine jb (bg rfl j) ?_;refine mq (nl ?_);exact jz (E,(y8.1++[e],y)) h [0,1]
    .refine xa ?_;exact jz (z9,y8.1) h [0,1]
   .refine sr (mq ?_);refine aq ?_;refine cq (nt (aD ?_));refine ce (iS [2,7,32] ⟨rfl,rfl,rfl,trivial⟩) ?_;cases h;exact rb
def eg(k:Nat)(a0:ae)(r5:(List (List Int)))(x9:Int):Nat->((List (List Int))×Int)->Option (List (List Int))
 |0,_=>none
 |n+1,c=>
  if c.2 < x9 then((aQ r5 c.2).bind λj=>
  (cM (0≤a0.1/\a0.1≤5)).bind λ_=>
  (g7 k (List.take (Int.toNat a0.1) j)).bind λe=>
  (cM (bW (length c.1+length [e]))).bind λ_=>
  (ck (c.2+1)).bind λh=>
  eg k a0 r5 x9 n (c.1++[e],h)) else(some c.1)
def i9(k:Nat)(a0:ae)(a1:(List Int)):Option ((List (List Int))×Int):=
 (jy k a0 a1 ([]:(List Int)) ([]:(List Int)) ([]:(List Int))).bind λr2=>
 f8 r2.1 (if¬(r2.2.2=0) then(some (([]:(List (List Int))),r2.2.2)) else(none)) (λq3=>if¬(r2.2.2=0) then(some (([]:(List (List Int))),r2.2.2)) else((lB k q3 r2.2.1).bind λr5=>
 (((ck ((a0.2.2.2.2.1.length:Int)+1)).bind λx9=>
 eg k a0 r5 x9 k (([]:(List (List Int))),0)):Option ((List (List Int)))).bind λx7=>
 some (x7,0)))
theorem o7(k:Nat)(a0:ae)(a1:(List Int))(r:(List (List Int))×Int)(h:i9 k a0 a1=some r):
 bY (dV Tryz.prog) 12 [.rep ay a0,.rep Tl a1] [] (λ_:Unit=>(bM [.rep (.slice Tl) r.1,I r.2],[])):=by
 unfold i9 at h
 replace h:=bu h
 refine bY.of 43 Tryz.func12 rfl Tryz.ntmps12 rfl λS w0=>?_
 refine sr ?_
 refine bx λb1=>?_
 refine cq ?_
 refine cq ?_
 refine nt ?_
 refine sr ?_
 refine lo jP ?_
 refine mq ?_
 obtain⟨r2,X,h⟩:=aa h
 have j:=lI k a0 a1 ([]:(List Int)) ([]:(List Int)) ([]:(List Int)) r2 X
 rcases hr:r2.1 with _ |q3
 .
  rw [hr] at h j;replace h:=vb h;refine aN (Δ:=[]) (F:=_) (λ_ _ _=>ag rfl _) rfl rfl (bR (N:=[(.tmp 13,.rep ay a0),(.tmp 14,.rep Tl a1),(.const (.slice none 0 0),.eq (.slice none 0 0)),(.const (.slice none 0 0),.eq (.slice none 0 0)),(.const (.slice none 0 0),.eq (.slice none 0 0))]) (bb [.tmp 13,.tmp 14,.const (.slice none 0 0),.const (.slice none 0 0),.const (.slice none 0 0)] rfl rfl ze rfl j) λ_ _ _ hn=>⟨hn.1,hn.2.1,(aH (t:=Tl) (x:=([]:(List Int))) .nil rfl rfl hn.2.2.1),(aH (t:=Tl) (x:=([]:(List Int))) .nil rfl rfl hn.2.2.2.1),(aH (t:=Tl) (x:=([]:(List Int))) .nil rfl rfl hn.2.2.2.2.1),trivial⟩) ⟨rfl,rfl,rfl,rfl,rfl,trivial⟩ λ_=>?_;refine mq ?_;refine xr ?_;refine xr ?_;refine xr ?_;refine aq ?_;refine aq ?_;refine aq (nt (am (sr ?_)));refine mq ?_;refine jb (cG rfl) ?_;refine nt (cn h (λh=>?_) (λh=>?_))
  .refine sr (mq ?_);refine cq ?_;refine aq (nt (rx ?_));refine ce (eI (t:=(.slice Tl)) (x:=([]:(List (List Int)))) 4 rfl .nil rfl rfl) ?_;cases h;exact rb
  .cases h
 .
  rw [hr] at h j;replace h:=va h;refine aN (Δ:=[]) (F:=_) (λ_ _ _=>ag rfl _) rfl rfl (bR (N:=[(.tmp 13,.rep ay a0),(.tmp 14,.rep Tl a1),(.const (.slice none 0 0),.eq (.slice none 0 0)),(.const (.slice none 0 0),.eq (.slice none 0 0)),(.const (.slice none 0 0),.eq (.slice none 0 0))]) (bb [.tmp 13,.tmp 14,.const (.slice none 0 0),.const (.slice none 0 0),.const (.slice none 0 0)] rfl rfl ze rfl j) λ_ _ _ hn=>⟨hn.1,hn.2.1,(aH (t:=Tl) (x:=([]:(List Int))) .nil rfl rfl hn.2.2.1),(aH (t:=Tl) (x:=([]:(List Int))) .nil rfl rfl hn.2.2.2.1),(aH (t:=Tl) (x:=([]:(List Int))) .nil rfl rfl hn.2.2.2.2.1),trivial⟩) ⟨rfl,rfl,rfl,rfl,rfl,trivial⟩ λz4=>?_;refine mq ?_;refine xr ?_;refine xr ?_;refine xr ?_;refine aq ?_;refine aq ?_;refine aq (nt (am (sr ?_)));refine mq ?_;refine jb (cG rfl) ?_;refine nt (cn h (λh=>?_) (λh=>?_))
  .refine sr (mq ?_);refine cq ?_;refine aq (nt (rx ?_));refine ce (eI (t:=(.slice Tl)) (x:=([]:(List (List Int)))) 4 rfl .nil rfl rfl) ?_;cases h;exact rb
  .refine sk (sr (cq (nt (sr ?_))));iterate 2 refine mq ?_
   obtain⟨r5,U,h⟩:=aa h;refine fr 1 ?_;refine fr 1 ?_;refine aN (Δ:=[_,_]) (F:=_) (λ_ _ _=>ag rfl _) rfl rfl (bb [.tmp 22,.tmp 23] rfl rfl D8 rfl (oG k q3 z4.1 z4.2 r2.2.1 r5 U)) ⟨rfl,rfl,trivial⟩ λ_=>?_;refine bi rfl rfl rfl (bJ rfl EO HQ) trivial λb6=>?_;refine aV rfl rfl (aS rfl Fv rfl rfl rfl) ⟨rfl,rfl,trivial⟩ ?_;refine eZ (jh (t:=(.arr 7 Tr)) (x:=r5) [10] .rep ⟨rfl,trivial⟩) ?_;refine nt (aL (Z:=Value) (α:=(List (List Int))) (λz8 x7=>[(9,.eq z8)]) (λz8 x7=>[.sl z8 22 Tl x7,.inv z4.2 (bZ k q3)]) h (λK h=>?_) (λz8 x7 h=>?_))
   .refine sr (fl dZ ?_);refine fr 2 ?_;refine lo jQ ?_;refine ol xF ?_;obtain⟨x9,Q,h⟩:=aa h;refine jb (bg rfl Q) ?_;refine ff rfl ?_;refine nt (ak (jN (SE.nil 22 Tl) ?_));refine aK (λe c=>[(2,Pt b1),(9,.eq e),(10,.at (.arr 7 Tr) r5),(28,I x9),(29,I c.2)]) (λe c=>[.obj b1 26 (.rep ay a0),.sl e 22 Tl c.1,.inv z4.2 (bZ k q3)]) (eg k a0 r5 x9) k (.slice none 0 0) (([]:(List (List Int))),0) (λ_=>rfl) h (SE.fin [1,0,3] ⟨rfl,rfl,rfl,rfl,rfl,trivial⟩ rfl) (λn e c h=>?_);unfold eg at h;refine sr (jb (ba rfl) ?_);refine nt (am (ci h (λh=>?_) (λh=>?_)))
    .refine sk (am (ak (sr (mq ?_))));refine aq (nt ?_);refine cV ?_;refine dm ?_;refine dm ?_;obtain⟨M,y,h⟩:=aa h;refine db (cp (t:=Tr) rfl Iy iV y) ?_;refine da (aJ rfl gC) ?_;refine ea 0 (aE rfl cJ oU rfl) ?_;obtain⟨gw,l,h⟩:=aa h;refine db (uR (t:=Ti) rfl Bm cJ (ap l).1 (ap l).2) ?_;obtain⟨s,E,h⟩:=aa h;refine da (C4 (aA [.tmp 37] rfl rfl RV rfl (qW k (List.take (Int.toNat a0.1) M) s E))) ?_;refine da (bh (t:=Tl) [(.tmp 38,_)] [s] rfl rfl oR (.cons rfl .rep .nil) rfl rfl) ?_;refine df eU ?_;obtain⟨Y,D,h⟩:=aa h;refine fr 1 ?_;refine eC rfl rfl rfl (cL rfl rfl oR (ap D)) ⟨rfl,rfl,trivial⟩ λO=>?_;refine aq (aI (aZ (tn (ab ?_))));obtain⟨J,u,h⟩:=aa h;refine jb (bg rfl u) ?_;refine mq (nl ?_);exact jz (O,(c.1++[s],J)) h [1,0,2]
    .refine xa ?_;exact jz (e,c.1) h [1,2]
   .refine sr (mq ?_);refine aq ?_;refine cq (nt (aD ?_));refine ce (iS [4,9,42] ⟨rfl,rfl,rfl,trivial⟩) ?_;cases h;exact rb
def mi(k:Nat)(a0:ae)(a1:(List Int))(a2:(List Int))(a3:(List Int)):Option ((Option ae)×(List Int)×Int):=
 (jy k a0 ([]:(List Int)) a1 a2 a3).bind λr2=>
 f8 r2.1 (if¬(r2.2.2=0) then(some (none,([]:(List Int)),r2.2.2)) else(none)) (λq3=>if¬(r2.2.2=0) then(some (none,([]:(List Int)),r2.2.2)) else((er k q3 0).bind λr5=>
 if(r5.length:Int)=0 then(some (none,([]:(List Int)),9)) else(some (some q3,r5,0))))
theorem mO(k:Nat)(a0:ae)(a1:(List Int))(a2:(List Int))(a3:(List Int))(r:(Option ae)×(List Int)×Int)(h:mi k a0 a1 a2 a3=some r):
 bY (dV Tryz.prog) 42 [.rep ay a0,.rep Tl a1,.rep Tl a2,.rep Tl a3] [] (λz:Nat×Nat=>(bM [Jg r.1 z.1,.rep (.slice (.int .u8)) r.2.1,I r.2.2],Jf r.1 λq=>pW q z.1 z.2 k)):=by
 unfold mi at h
 replace h:=bu h
 refine bY.of 34 Tryz.func42 rfl Tryz.ntmps42 rfl λS w0=>?_
 refine sr ?_
 refine bx λb1=>?_
 refine cq ?_
 refine cq ?_
 refine cq ?_
 refine nt ?_
 refine sr ?_
 refine lo jP ?_
 iterate 3 refine mq ?_
 obtain⟨r2,j,h⟩:=aa h
 have c:=lI k a0 ([]:(List Int)) a1 a2 a3 r2 j
 rcases hr:r2.1 with _ |q3
 .
  rw [hr] at h c;replace h:=vb h;refine aN (Δ:=[]) (F:=_) (λ_ _ _=>ag rfl _) rfl rfl (bR (N:=[(.tmp 16,.rep ay a0),(.const (.slice none 0 0),.eq (.slice none 0 0)),(.tmp 17,.rep Tl a1),(.tmp 18,.rep Tl a2),(.tmp 19,.rep Tl a3)]) (bb [.tmp 16,.const (.slice none 0 0),.tmp 17,.tmp 18,.tmp 19] rfl rfl ze rfl c) λ_ _ _ hn=>⟨hn.1,(aH (t:=Tl) (x:=([]:(List Int))) .nil rfl rfl hn.2.1),hn.2.2.1,hn.2.2.2.1,hn.2.2.2.2.1,trivial⟩) ⟨rfl,rfl,rfl,rfl,rfl,trivial⟩ λ_=>?_;refine mq ?_;refine xr ?_;refine xr ?_;refine xr ?_;refine aq ?_;refine aq ?_;refine aq (nt (am (sr ?_)));refine mq ?_;refine jb (cG rfl) ?_;refine nt (cn h (λh=>?_) (λh=>?_))
  .refine sr (mq ?_);refine cq ?_;refine cq ?_;refine aq (nt (rx ?_));refine ce (eI (t:=(.slice (.int .u8))) (x:=([]:(List Int))) 9 rfl .nil rfl rfl) ?_;cases h;exact aR (0,0) [.eq (.pointer none),_,_] 0 ⟨rfl,rfl,rfl,trivial⟩ rfl
  .cases h
 .
  rw [hr] at h c;replace h:=va h;refine aN (Δ:=[]) (F:=_) (λ_ _ _=>ag rfl _) rfl rfl (bR (N:=[(.tmp 16,.rep ay a0),(.const (.slice none 0 0),.eq (.slice none 0 0)),(.tmp 17,.rep Tl a1),(.tmp 18,.rep Tl a2),(.tmp 19,.rep Tl a3)]) (bb [.tmp 16,.const (.slice none 0 0),.tmp 17,.tmp 18,.tmp 19] rfl rfl ze rfl c) λ_ _ _ hn=>⟨hn.1,(aH (t:=Tl) (x:=([]:(List Int))) .nil rfl rfl hn.2.1),hn.2.2.1,hn.2.2.2.1,hn.2.2.2.2.1,trivial⟩) ⟨rfl,rfl,rfl,rfl,rfl,trivial⟩ λz4=>?_;refine mq ?_;refine xr ?_;refine xr ?_;refine xr ?_;refine aq ?_;refine aq ?_;refine aq (nt (am (sr ?_)));refine mq ?_;refine jb (cG rfl) ?_;refine nt (cn h (λh=>?_) (λh=>?_))
  .refine sr (mq ?_);refine cq ?_;refine cq ?_;refine aq (nt (rx ?_));refine ce (eI (t:=(.slice (.int .u8))) (x:=([]:(List Int))) 9 rfl .nil rfl rfl) ?_;cases h;exact aR (0,0) [.eq (.pointer none),_,_] 0 ⟨rfl,rfl,rfl,trivial⟩ rfl
  .refine sk (sr (mq ?_));obtain⟨r5,e,h⟩:=aa h;refine fr 1 ?_;refine fr 1 ?_;refine aN (Δ:=[_,_]) (F:=_) (λ_ _ _=>ag rfl _) rfl rfl (bb [.tmp 27,.const (.int .u8 (0))] rfl rfl PW rfl (j8 k q3 z4.1 z4.2 0 r5 e)) ⟨rfl,rfl,trivial⟩ λ_=>?_;refine aq (nt (am (sr ?_)));refine mq ?_;refine ol zU ?_;refine jb (dP rfl) ?_;refine nt (ci h (λh=>?_) (λh=>?_))
   .refine sr (cq ?_);refine cq ?_;refine cq (nt (rx ?_));refine ce (eI (t:=(.slice (.int .u8))) (x:=([]:(List Int))) 9 rfl .nil rfl rfl) ?_;cases h;exact aR (0,0) [.eq (.pointer none),_,_] 0 ⟨rfl,rfl,rfl,trivial⟩ rfl
   .refine sk (sr ?_);iterate 2 refine mq ?_
    refine aq ?_;refine aq ?_;refine cq (nt (aD ?_));cases h;exact aR (z4.1,z4.2) [.eq (.pointer (some ⟨z4.1,0,none⟩)),_,_] 2 ⟨rfl,rfl,rfl,trivial⟩ rfl
def fP(k:Nat)(a2:Int)(r1:(List (List Int)))(x5:Int):Nat->Int->Option (Except Int Unit)
 |0,_=>none
 |n+1,y6=>
  if y6 < x5 then((aQ r1 y6).bind λx8=>
  (aQ x8 a2).bind λx9=>
  if 0≤x9 then(some (.error y6)) else((ck (y6+1)).bind λc=>
  fP k a2 r1 x5 n c)) else(some (.ok ()))
def ik(k:Nat)(a0:ae)(a1:Int)(a2:Int):Option Int:=
 (lB k a0 a1).bind λr1=>
 bE (α:=Unit) ((ck ((a0.2.2.2.2.1.length:Int)+1)).bind λx5=>
 fP k a2 r1 x5 k 0) (some) λ_=>
 some (-1:Int)
theorem kW(k:Nat)(a0:ae)(c z_a0:Nat)(a1:Int)(a2:Int)(r:Int)(h:ik k a0 a1 a2=some r):
 bY (dV Tryz.prog) 44 [Pt c,.eq (.int .u8 a1),I a2] [.obj c 125 (aU a0 z_a0),.inv z_a0 (bZ k a0)] (λ_:Unit=>(bM [I r],[.obj c 125 (aU a0 z_a0),.inv z_a0 (bZ k a0)])):=by
 unfold ik at h
 replace h:=bu h
 refine bY.of 30 Tryz.func44 rfl Tryz.ntmps44 rfl λS w0=>?_
 refine sr ?_
 refine cq ?_
 refine nt ?_
 refine sr ?_
 iterate 2 refine mq ?_
 obtain⟨r1,D,h⟩:=aa h
 have E:=oG k a0 c z_a0 a1 r1 D
 refine fr 1 ?_
 refine fr 1 ?_
 refine aN (Δ:=[_,_]) (F:=_) (λ_ _ _=>ag rfl _) rfl rfl (bb [.tmp 9,.tmp 10] rfl rfl D8 rfl E) ⟨rfl,rfl,trivial⟩ λ_=>?_
 refine bi rfl rfl rfl (bJ rfl EO HQ) trivial λb2=>?_
 refine aV rfl rfl (aS rfl Fv rfl rfl rfl) ⟨rfl,rfl,trivial⟩ ?_
 refine eZ (jh (t:=(.arr 7 Tr)) (x:=r1) [7] .rep ⟨rfl,trivial⟩) ?_
 refine nt ?_
 refine dq (Z:=Unit) (α:=Unit) (λz4 x3=>[]) (λz4 x3=>[.obj c 125 (aU a0 z_a0),.inv z_a0 (bZ k a0)]) (λe=>e=r) h (λe h=>Option.some.inj h) (λK hR h=>?_) (λz4 x3 h=>?_)
 .
  refine sr (mq ?_);refine ja (cN rfl) ?_;refine fl gQ ?_;refine fl dZ ?_;refine lo jQ ?_;refine ol xF ?_;obtain⟨x5,y,h⟩:=aa h;refine jb (bg rfl y) ?_;refine ff rfl ?_;refine nt (ak (aK (λz7 y6=>[(2,I a2),(7,.at (.arr 7 Tr) r1),(18,I x5),(19,I y6)]) (λz7 y6=>[.obj c 125 (aU a0 z_a0),.inv z_a0 (bZ k a0)]) (fP k a2 r1 x5) k () 0 (λ_=>rfl) h (SE.fin [0,1] ⟨rfl,rfl,rfl,rfl,trivial⟩ rfl) (λn z7 y6 h=>?_)));unfold fP at h;refine sr (jb (ba rfl) ?_);refine nt (am (ci h (λh=>?_) (λh=>?_)))
  .refine sk (am (ak (sr (mq ?_))));refine aq (nt (sr ?_));iterate 2 refine mq ?_
   obtain⟨x8,u,h⟩:=aa h;refine jb (cp (t:=Tr) rfl Iy iV u) ?_;obtain⟨x9,s,h⟩:=aa h;refine jb (cp (t:=Ti) rfl Bm cJ s) ?_;refine ja (av (t:=Ti) rfl cJ rfl) ?_;refine jb (gq rfl) ?_;refine nt (ci h (λh=>?_) (λh=>?_))
   .refine sr (mq ?_);refine aq (nt (aD (br (bD (bG ?_)))));obtain rfl:=hR _ h;exact aR () [_] 2 ⟨rfl,trivial⟩ rfl
   .refine bp (aZ (tn (ab ?_)));obtain⟨l,j,h⟩:=aa h;refine jb (bg rfl j) ?_;refine mq (nl ?_);exact jz ((),l) h [0,1]
  .refine xa ?_;exact jz ((),()) h [0,1]
 .
  refine sr (cq (nt (aD ?_)));cases h;exact aR () [_] 2 ⟨rfl,trivial⟩ rfl
def ko(k:Nat)(a1:Int)(r3:(Option ae)×(List Int)×Int)(q4:ae):Nat->((List Int)×Int)->Option (List Int)
 |0,_=>none
 |n+1,y8=>
  if y8.2 < (r3.2.1.length:Int) then((((aQ r3.2.1 y8.2).bind λh=>
  (ik k q4 h a1).bind λc=>
  if 0≤c then((cM (bW (length y8.1+length [c]))).bind λ_=>
  some (y8.1++[c])) else(some y8.1)):Option ((List Int))).bind λj=>
  (ck (y8.2+1)).bind λe=>
  ko k a1 r3 q4 n (j,e)) else(some y8.1)
def rG(k:Nat)(a0:ae)(a1:Int):Option (fx×Int):=
 (mi k a0 [a1] ([]:(List Int)) ([]:(List Int))).bind λr3=>
 f8 r3.1 (if¬(r3.2.2=0) then(some ((0,0),r3.2.2)) else(none)) (λq4=>if¬(r3.2.2=0) then(some ((0,0),r3.2.2)) else(((ko k a1 r3 q4 k (([]:(List Int)),0)):Option ((List Int))).bind λx6=>
 if(x6.length:Int)=0 then(some ((0,0),11)) else((lD k x6).bind λe=>
 (nE k x6).bind λc=>
 some ((e,c),0))))
theorem wS(k:Nat)(a0:ae)(a1:Int)(r:fx×Int)(h:rG k a0 a1=some r):
 bY (dV Tryz.prog) 15 [.rep ay a0,I a1] [] (λ_:Unit=>(bM [.rep bP r.1,I r.2],[])):=by
 unfold rG at h
 replace h:=bu h
 refine bY.of 51 Tryz.func15 rfl Tryz.ntmps15 rfl λS w0=>?_
 refine sr ?_
 refine bx λb1=>?_
 refine bi rfl rfl rfl (bJ rfl zV Qg) trivial λb2=>?_
 refine cq ?_
 refine nt ?_
 refine sr ?_
 refine fr 1 ?_
 refine lo jP ?_
 refine mq ?_
 refine ja (bh (t:=Ti) [(.tmp 15,_)] [a1] rfl rfl dD (.cons rfl .int .nil) rfl rfl) ?_
 obtain⟨r3,Y,h⟩:=aa h
 have s:=mO k a0 [a1] ([]:(List Int)) ([]:(List Int)) r3 Y
 rcases hr:r3.1 with _ |q4
 .
  rw [hr] at h s;replace h:=vb h;refine aN (Δ:=[]) (F:=_) (λ_ _ _=>ag rfl _) rfl rfl (bR (N:=[(.tmp 14,.rep ay a0),(.tmp 16,.rep Tl [a1]),(.const (.slice none 0 0),.eq (.slice none 0 0)),(.const (.slice none 0 0),.eq (.slice none 0 0))]) (bb [.tmp 14,.tmp 16,.const (.slice none 0 0),.const (.slice none 0 0)] rfl rfl D7 rfl s) λ_ _ _ hn=>⟨hn.1,hn.2.1,(aH (t:=Tl) (x:=([]:(List Int))) .nil rfl rfl hn.2.2.1),(aH (t:=Tl) (x:=([]:(List Int))) .nil rfl rfl hn.2.2.2.1),trivial⟩) ⟨rfl,rfl,rfl,rfl,trivial⟩ λ_=>?_;refine mq ?_;refine xr ?_;refine xr ?_;refine xr ?_;refine aq ?_;refine aq ?_;refine aq (nt (am (sr ?_)));refine mq ?_;refine jb (cG rfl) ?_;refine nt (cn h (λh=>?_) (λh=>?_))
  .refine sr (co rfl (eu [] rfl F3 zV zy (j7 trivial) rfl) trivial ?_);refine mq ?_;refine fr 1 ?_;refine aV rfl rfl (aS rfl uP trivial rfl rfl) ⟨rfl,rfl,trivial⟩ ?_;refine aq (nt (rx ?_));refine ce (jt (a:=.agg (.pair (I 0) (I 0))) (a':=.rep bP (0,0)) (sj (.agg (.pair .int .int)))) ?_;cases h;exact aR () [.rep bP (0,0),_] 0 ⟨⟨_,_,_,_,_,rfl,(.head _),uP,(vE),rfl⟩,rfl,trivial⟩ rfl
  .cases h
 .
  rw [hr] at h s;replace h:=va h;refine aN (Δ:=[]) (F:=_) (λ_ _ _=>ag rfl _) rfl rfl (bR (N:=[(.tmp 14,.rep ay a0),(.tmp 16,.rep Tl [a1]),(.const (.slice none 0 0),.eq (.slice none 0 0)),(.const (.slice none 0 0),.eq (.slice none 0 0))]) (bb [.tmp 14,.tmp 16,.const (.slice none 0 0),.const (.slice none 0 0)] rfl rfl D7 rfl s) λ_ _ _ hn=>⟨hn.1,hn.2.1,(aH (t:=Tl) (x:=([]:(List Int))) .nil rfl rfl hn.2.2.1),(aH (t:=Tl) (x:=([]:(List Int))) .nil rfl rfl hn.2.2.2.1),trivial⟩) ⟨rfl,rfl,rfl,rfl,trivial⟩ λz5=>?_;refine mq ?_;refine xr ?_;refine xr ?_;refine xr ?_;refine aq ?_;refine aq ?_;refine aq (nt (am (sr ?_)));refine mq ?_;refine jb (cG rfl) ?_;refine nt (cn h (λh=>?_) (λh=>?_))
  .refine sr (co rfl (eu [] rfl F3 zV zy (j7 trivial) rfl) trivial ?_);refine mq ?_;refine fr 3 ?_;refine aV rfl rfl (aS rfl uP trivial rfl rfl) ⟨rfl,rfl,trivial⟩ ?_;refine aq (nt (rx ?_));refine ce (jt (a:=.agg (.pair (I 0) (I 0))) (a':=.rep bP (0,0)) (sj (.agg (.pair .int .int)))) ?_;cases h;exact aR () [.rep bP (0,0),_] 0 ⟨⟨_,_,_,_,_,rfl,(.head _),uP,(vE),rfl⟩,rfl,trivial⟩ rfl
  .refine sk (sr (cq (nt ?_)));refine aL (Z:=Value) (α:=(List Int)) (λz7 x6=>[(4,Pt b2),(9,.eq z7)]) (λz7 x6=>[.obj b2 39 (.agg (.pair (I 0) (I 0))),.sl z7 3 Ti x6,.inv z5.2 (bZ k q4)]) h (λK h=>?_) (λz7 x6 h=>?_)
   .refine sr (mq ?_);refine ol zU ?_;refine ff rfl ?_;refine nt (ak (jN (SE.nil 3 Ti) ?_));refine aK (λz9 y8=>[(1,I a1),(4,Pt b2),(6,.eq (.pointer (some ⟨z5.1,0,none⟩))),(9,.eq z9),(25,.rep (.slice (.int .u8)) r3.2.1),(26,I (r3.2.1.length:Int)),(27,I y8.2)]) (λz9 y8=>[.obj b2 39 (.agg (.pair (I 0) (I 0))),.obj z5.1 125 (aU q4 z5.2),.sl z9 3 Ti y8.1,.inv z5.2 (bZ k q4)]) (ko k a1 r3 q4) k (.slice none 0 0) (([]:(List Int)),0) (λ_=>rfl) h (SE.fin [4,1,0,2] ⟨rfl,rfl,rfl,rfl,rfl,rfl,rfl,trivial⟩ rfl) (λn z9 y8 h=>?_);unfold ko at h;refine sr (jb (ba rfl) ?_);refine nt (am (ci h (λh=>?_) (λh=>?_)))
    .refine sk (aL (Z:=Value) (α:=(List Int)) (λc e=>[(1,I a1),(4,Pt b2),(6,.eq (.pointer (some ⟨z5.1,0,none⟩))),(9,.eq c),(25,.rep (.slice (.int .u8)) r3.2.1),(26,I (r3.2.1.length:Int)),(27,I y8.2)]) (λc e=>[.obj b2 39 (.agg (.pair (I 0) (I 0))),.obj z5.1 125 (aU q4 z5.2),.sl c 3 Ti e,.inv z5.2 (bZ k q4)]) h (λK h=>?_) (λc e h=>?_))
     .refine ak (sr ?_);obtain⟨U,D,h⟩:=aa h;refine jb (aW (t:=(.int .u8)) rfl zU pn D) ?_;refine ja (av (t:=(.int .u8)) rfl pn rfl) ?_;refine aq (nt (sr ?_));iterate 3 refine mq ?_
      obtain⟨u,O,h⟩:=aa h;refine fr 3 ?_;refine fr 2 ?_;refine aN (Δ:=[_,_]) (F:=_) (λ_ _ _=>ag rfl _) rfl rfl (bb [.tmp 31,.tmp 32,.tmp 33] rfl rfl PV rfl (kW k q4 z5.1 z5.2 U a1 u O)) ⟨rfl,rfl,rfl,trivial⟩ λ_=>?_;refine aq (nt (sr ?_));refine mq ?_;refine jb (gq rfl) ?_;refine nt (ci h (λh=>?_) (λh=>?_))
      .refine ab ?_;iterate 2 refine mq ?_
       refine ja (bh (t:=Ti) [(.tmp 38,_)] [u] rfl rfl dD (.cons rfl .int .nil) rfl rfl) ?_;obtain⟨gw,E,h⟩:=aa h;refine fr 3 ?_;refine eC rfl rfl rfl (cL rfl rfl dD (ap E)) ⟨rfl,rfl,trivial⟩ λX=>?_;refine aq (aI (bn ?_));exact jz (X,y8.1++[u]) h [3,1,0,2]
      .refine bp (bn ?_);exact jz (z9,y8.1) h [2,0,3,1]
     .refine ab ?_;obtain⟨Q,y,h⟩:=aa h;refine jb (bg rfl y) ?_;refine mq (nl ?_);exact jz (c,(e,Q)) h [0,1,2,3]
    .refine xa ?_;exact jz (z9,y8.1) h [0,2,3]
   .refine am (sr (mq ?_));refine fr 1 ?_;refine ka (me rfl rfl fD) ?_;refine jb (dP rfl) ?_;refine nt (ci h (λh=>?_) (λh=>?_))
    .refine sr (co rfl (eu [] rfl F3 zV zy (j7 trivial) rfl) trivial ?_);refine fr 1 ?_;refine aV rfl rfl (aS rfl uP trivial rfl rfl) ⟨rfl,rfl,trivial⟩ ?_;refine cq (nt (rx ?_));refine ce (jt (a:=.agg (.pair (I 0) (I 0))) (a':=.rep bP (0,0)) (sj (.agg (.pair .int .int)))) ?_;cases h;exact aR () [.rep bP (0,0),_] 0 ⟨⟨_,_,_,_,_,rfl,(.head _),uP,(vE),rfl⟩,rfl,trivial⟩ rfl
    .refine sk (sr (mq ?_));obtain⟨l,M,h⟩:=aa h;refine ka (lq (N:=[(.tmp 46,.eq z7)]) (aA [.tmp 46] rfl rfl PU rfl (nD k x6 l M)) (λ_ _ _ hv hn=>⟨(lend hn.1 hv),trivial⟩) (λ_=>⟨rfl,nV⟩)) ?_;refine mq ?_;obtain⟨j,J,h⟩:=aa h;refine ka (lq (N:=[(.tmp 48,.eq z7)]) (aA [.tmp 48] rfl rfl RU rfl (tq k x6 j J)) (λ_ _ _ hv hn=>⟨(lend hn.1 hv),trivial⟩) (λ_=>⟨rfl,nV⟩)) ?_;refine jb (eu [(0,.tmp 47,_),(1,.tmp 49,_)] rfl F3 zV zy (j7 ⟨rfl,rfl,trivial⟩) rfl) ?_;refine fr 1 ?_;refine aV rfl rfl (aS rfl uP trivial rfl rfl) ⟨rfl,rfl,trivial⟩ ?_;refine cq (nt (aD ?_));refine ce (jt (a:=.agg (.pair (I l) (I j))) (a':=.rep bP (l,j)) (sj (.agg (.pair .int .int)))) ?_;cases h;exact aR () [.rep bP (l,j),_] 0 ⟨⟨_,_,_,_,_,rfl,(.head _),uP,(vE),rfl⟩,rfl,trivial⟩ rfl
def ge(k:Nat)(r2:(List (List Int)))(y6:Int×Int×(List (eH×eH))):Nat->Int->Option Int
 |0,_=>none
 |n+1,c=>
  ((if 0 < c then((ck (c - 1)).bind λl=>
  (aQ r2 l).bind λj=>
  (aQ j y6.1).bind λh=>
  some (decide (0≤h))) else(some false)):Option (Bool)).bind λr=>
  if r=true then((ck (c - 1)).bind λe=>
  ge k r2 y6 n e) else(some c)
def gf(k:Nat)(a0:ae)(r2:(List (List Int))):Nat->(Int×Int×(List (eH×eH)))->Option (List (fx×fx))
 |0,_=>none
 |n+1,y6=>
  bE (α:=Int×Int×(List (eH×eH))) (((ge k r2 y6 k y6.2.1):Option (Int)).bind λc=>
  if c=0 then((cM (yk (y6.1,y6.2.1))).bind λ_=>
  some (.error (AN y6.2.2 (y6.1,y6.2.1) ((-1:Int),0)))) else((ck (c - 1)).bind λr=>
  (aQ r2 r).bind λl=>
  (ck (c - 1)).bind λj=>
  (dn k a0 l y6.1 j).bind λh=>
  (ck (c - 1)).bind λe=>
  (cM (yk (y6.1,y6.2.1))).bind λ_=>
  some (.ok (h,e,AN y6.2.2 (y6.1,y6.2.1) (h,e))))) (some) λx8=>
  gf k a0 r2 n (x8.1,x8.2.1,x8.2.2)
def kY(k:Nat)(a0:ae)(a1:Int)(a2:fx):Option (List (fx×fx)):=
 (lB k a0 a1).bind λr2=>
 gf k a0 r2 k (a2.1,a2.2,([]:List (eH×eH)))
theorem qy(k:Nat)(a0:ae)(c z_a0:Nat)(a1:Int)(a2:fx)(r:(List (fx×fx)))(h:kY k a0 a1 a2=some r):
 bY (dV Tryz.prog) 80 [Pt c,.eq (.int .u8 a1),.rep bP a2] [.obj c 125 (aU a0 z_a0),.inv z_a0 (bZ k a0)] (λz:Nat=>(bM [.eq (.map (some z))],[.inv z (sF r),.obj c 125 (aU a0 z_a0),.inv z_a0 (bZ k a0)])):=by
 unfold kY at h
 replace h:=bu h
 refine bY.of 56 Tryz.func80 rfl Tryz.ntmps80 rfl λS w0=>?_
 refine sr ?_
 refine bx λb1=>?_
 refine cq ?_
 refine nt ?_
 refine sr ?_
 iterate 2 refine mq ?_
 obtain⟨r2,Ue,h⟩:=aa h
 have Uf:=oG k a0 c z_a0 a1 r2 Ue
 refine fr 2 ?_
 refine fr 2 ?_
 refine aN (Δ:=[_,_]) (F:=_) (λ_ _ _=>ag rfl _) rfl rfl (bb [.tmp 12,.tmp 13] rfl rfl D8 rfl Uf) ⟨rfl,rfl,trivial⟩ λ_=>?_
 refine bi rfl rfl rfl (bJ rfl EO HQ) trivial λb3=>?_
 refine aV rfl rfl (aS rfl Fv rfl rfl rfl) ⟨rfl,rfl,trivial⟩ ?_
 refine eZ (jh (t:=(.arr 7 Tr)) (x:=r2) [7] .rep ⟨rfl,trivial⟩) ?_
 refine nt ?_
 refine sr ?_
 refine bi rfl rfl rfl (vz rfl) trivial λz4=>?_
 refine eZ (sb (sF []) IR) ?_
 refine aq ?_
 refine nt ?_
 refine sr ?_
 refine bi rfl rfl rfl (bJ rfl so zA) trivial λb5=>?_
 refine nt ?_
 refine sr ?_
 refine fl xj ?_
 refine aV rfl rfl (aS rfl cJ rfl rfl rfl) ⟨rfl,rfl,trivial⟩ ?_
 refine nt ?_
 refine ak ?_
 refine dS 4 rfl ?_
 refine jN (jt (a:=.rep bP a2) (a':=.agg (.pair (I a2.1) (I a2.2))) (AE.trans Dm (AE.agg (AE.trans zN (AE.pair AE.int AE.int))))) ?_
 refine aK (λz7 y6=>[(0,Pt c),(5,Pt b1),(7,.at (.arr 7 Tr) r2),(8,.eq (.map (some z4))),(9,Pt b5)]) (λz7 y6=>[.obj c 125 (aU a0 z_a0),.obj b1 131 (.agg (.pair (I y6.1) (I y6.2.1))),.obj b5 131 (.agg (.pair (I (-1:Int)) (I 0))),.inv z_a0 (bZ k a0),.inv z4 (sF y6.2.2)]) (gf k a0 r2) k () (a2.1,a2.2,([]:List (eH×eH))) (λ_=>rfl) h (SE.fin [3,0,1,4,2] ⟨rfl,rfl,rfl,rfl,rfl,trivial⟩ rfl) (λn z7 y6 h=>?_)
 unfold gf at h
 refine Ih (Z:=Unit) (α:=Int×Int×(List (eH×eH))) (λz9 x8=>[(0,Pt c),(5,Pt b1),(7,.at (.arr 7 Tr) r2),(8,.eq (.map (some z4))),(9,Pt b5)]) (λz9 x8=>[.obj c 125 (aU a0 z_a0),.obj b1 131 (.agg (.pair (I x8.1) (I x8.2.1))),.obj b5 131 (.agg (.pair (I (-1:Int)) (I 0))),.inv z_a0 (bZ k a0),.inv z4 (sF x8.2.2)]) (λe=>e=r) h (λe h=>Option.some.inj h) (λK hR h=>?_) (λz9 x8 h=>?_)
 .
  refine ak (sr (fl J8 ?_));refine fr 1 ?_;refine lo cJ ?_;refine aq (nt ?_);refine aL (Z:=Unit) (α:=Int) (λO D=>[(0,Pt c),(5,Pt b1),(7,.at (.arr 7 Tr) r2),(8,.eq (.map (some z4))),(9,Pt b5),(10,I D)]) (λO D=>[.obj c 125 (aU a0 z_a0),.obj b1 131 (.agg (.pair (I y6.1) (I y6.2.1))),.obj b5 131 (.agg (.pair (I (-1:Int)) (I 0))),.inv z_a0 (bZ k a0),.inv z4 (sF y6.2.2)]) h (λK h=>?_) (λO D h=>?_)
  .refine ak (aK (λM s=>[(0,Pt c),(5,Pt b1),(7,.at (.arr 7 Tr) r2),(8,.eq (.map (some z4))),(9,Pt b5),(10,I s)]) (λM s=>[.obj c 125 (aU a0 z_a0),.obj b1 131 (.agg (.pair (I y6.1) (I y6.2.1))),.obj b5 131 (.agg (.pair (I (-1:Int)) (I 0))),.inv z_a0 (bZ k a0),.inv z4 (sF y6.2.2)]) (ge k r2 y6) k () y6.2.1 (λ_=>rfl) h (SE.fin [1,0,2,3,4] ⟨rfl,rfl,rfl,rfl,rfl,rfl,trivial⟩ rfl) (λn M s h=>?_));unfold ge at h;refine am (aL (Z:=Unit) (α:=Bool) (λJ y=>[(0,Pt c),(5,Pt b1),(7,.at (.arr 7 Tr) r2),(8,.eq (.map (some z4))),(9,Pt b5),(10,I s),(30,.eq (.bool y))]) (λJ y=>[.obj c 125 (aU a0 z_a0),.obj b1 131 (.agg (.pair (I y6.1) (I y6.2.1))),.obj b5 131 (.agg (.pair (I (-1:Int)) (I 0))),.inv z_a0 (bZ k a0),.inv z4 (sF y6.2.2)]) h (λK h=>?_) (λJ y h=>?_))
   .refine cV ?_;refine dm ?_;refine db (mf rfl) ?_;refine xO rfl rfl rfl (bS rfl) ⟨rfl,trivial⟩ (λhb=>?_) (λhb=>?_)
    .replace h:=be (gV hb) h;refine dW rfl rfl rfl rfl rfl (bS rfl) ⟨rfl,rfl,trivial⟩ ?_;obtain⟨Un,TN,h⟩:=aa h;refine dW rfl rfl rfl rfl rfl (eG rfl TN) ⟨rfl,rfl,rfl,trivial⟩ ?_;refine dW rfl rfl rfl rfl rfl (aJ rfl xj) ⟨rfl,rfl,trivial⟩ ?_;refine kA 1 rfl rfl rfl rfl rfl rfl (aE rfl cJ oU rfl) ⟨rfl,rfl,trivial⟩ ?_;obtain⟨Um,TM,h⟩:=aa h;refine dW rfl rfl rfl rfl rfl (cp (t:=Tr) rfl Iy iV TM) ⟨rfl,rfl,rfl,trivial⟩ ?_;refine df eU ?_;obtain⟨TW,TL,h⟩:=aa h;refine gb (cp (t:=Ti) rfl Bm cJ TL) ?_;refine ga (av (t:=Ti) rfl cJ rfl) ?_;refine gb (gq rfl) ?_;refine pt (nl ?_);exact jz ((),decide (0≤TW)) h [0,1,2,3,4]
    .replace h:=aC (gW hb) h;iterate 5 refine dg ?_
     refine df eU ?_;iterate 3 refine gn ?_
     refine pf (nl ?_);exact jz ((),false) h [0,1,2,3,4]
   .refine cv h (λh=>?_) (λh=>?_)
    .refine sk (ak (ab (mq ?_)));obtain⟨TV,TK,h⟩:=aa h;refine jb (eG rfl TK) ?_;refine aq (aI (bn ?_));exact jz ((),TV) h [0,1,2,3,4]
    .refine xa ?_;exact jz ((),s) h [0,1,2,3,4]
  .refine am (sr (mq ?_));refine jb (dP rfl) ?_;refine nt (ci h (λh=>?_) (λh=>?_))
   .refine sr (mq ?_);refine fr 1 ?_;refine lo jv ?_;refine fr 2 ?_;refine lo jv ?_;refine eZ (eI (t:=bP) (x:=(y6.1,y6.2.1)) 36 rfl (.agg (.pair .int .int)) trivial rfl) ?_;obtain⟨UE,TP,h⟩:=aa h;refine eZ (eI (t:=bP) (x:=((-1:Int),0)) 37 rfl (.agg (.pair .int .int)) trivial rfl) ?_;refine fr 4 ?_;refine aV rfl rfl (ql (K:=kM) (V:=kM) (t:=(y6.1,y6.2.1)) (n:=((-1:Int),0)) (l:=y6.2.2) (λ_ _ _ h=>mI h) rfl Ez l6 (λ_ _ _ h=>mI h) (qc (ap TP)) (pZ _) qd) ⟨rfl,rfl,rfl,trivial⟩ ?_;refine nt (sr (mq ?_));refine aq (nt (rx (br (bD ?_))));refine ce (SE.fin (Γ':=[(6,_)]) [0,3,4,1,2] ⟨rfl,trivial⟩ rfl) ?_;obtain rfl:=hR _ h;exact aR z4 [.eq (.map (some z4))] 3 ⟨rfl,trivial⟩ rfl
   .refine sk (am (qP ?_));refine cH rfl rfl rfl (bS rfl) ⟨rfl,trivial⟩ ?_;refine cH rfl rfl rfl (bS rfl) ⟨rfl,trivial⟩ ?_;obtain⟨Ul,zz,h⟩:=aa h;refine cH rfl rfl rfl (eG rfl zz) ⟨rfl,rfl,trivial⟩ ?_;obtain⟨TU,qt,h⟩:=aa h;refine cH rfl rfl rfl (cp (t:=Tr) rfl Iy iV qt) ⟨rfl,rfl,trivial⟩ ?_;refine cH rfl rfl rfl (av (t:=Tr) rfl iV rfl) ⟨rfl,trivial⟩ ?_;refine cH rfl rfl rfl (aJ rfl xj) ⟨rfl,trivial⟩ ?_;refine iU 1 rfl rfl rfl rfl (aE rfl cJ oU rfl) ⟨rfl,trivial⟩ ?_;refine cH rfl rfl rfl (bS rfl) ⟨rfl,trivial⟩ ?_;obtain⟨TS,mw,h⟩:=aa h;refine cH rfl rfl rfl (eG rfl mw) ⟨rfl,rfl,trivial⟩ ?_;obtain⟨j,TR,h⟩:=aa h;refine iU 0 rfl rfl rfl rfl (aA [.tmp 39,.tmp 43,.tmp 45,.tmp 47] rfl rfl LK rfl (nm k a0 c z_a0 TU y6.1 TS j TR)) ⟨rfl,rfl,rfl,rfl,trivial⟩ ?_;refine cH rfl rfl rfl (bS rfl) ⟨rfl,trivial⟩ ?_;obtain⟨u,mc,h⟩:=aa h;refine cH rfl rfl rfl (eG rfl mc) ⟨rfl,rfl,trivial⟩ ?_;refine cH rfl rfl rfl (eu [(0,.tmp 48,_),(1,.tmp 50,_)] rfl F4 so Bf (j7 ⟨rfl,rfl,trivial⟩) rfl) ⟨rfl,rfl,trivial⟩ ?_;refine Ld (M7 131 (.agg (.pair (I 0) (I 0)))) (λ_=>rfl) rfl rfl rfl (bJ rfl so zA) trivial ?_;refine xM 14 [true,true,true,true,true,true,true,true,true,true,true,true,true,true] [] [] [] rfl (by kernel_rfl) (by kernel_rfl) (by kernel_rfl) eU (λvs hv hB=>?_);obtain⟨w0,UC,rfl,Ud⟩:=aG hv;obtain⟨w1,UB,rfl,Uc⟩:=aG Ud;obtain⟨w2,UA,rfl,Ub⟩:=aG Uc;obtain⟨w3,Uz,rfl,Ua⟩:=aG Ub;obtain⟨w4,Uy,rfl,T9⟩:=aG Ua;obtain⟨w5,Ux,rfl,T8⟩:=aG T9;obtain⟨w6,Uw,rfl,TZ⟩:=aG T8;obtain⟨w7,Uu,rfl,TY⟩:=aG TZ;obtain⟨w8,Ut,rfl,TX⟩:=aG TY;obtain⟨w9,Uk,rfl,gw⟩:=aG TX;obtain⟨Us,Uj,rfl,Y⟩:=aG gw;obtain⟨Ur,Ui,rfl,X⟩:=aG Y;obtain⟨Up,Uh,rfl,U⟩:=aG X;obtain⟨Uo,Ug,rfl,Q⟩:=aG U;obtain rfl:=s6 Q;obtain⟨E,rfl⟩:=M6 hB.2.2.2.2.2.2.2.2.2.2.2.2.2.1;refine⟨[0,1,2,3,4,5],[.obj c 125 (aU a0 z_a0),.obj b1 131 (.agg (.pair (I y6.1) (I y6.2.1))),.obj b5 131 (.agg (.pair (I (-1:Int)) (I 0))),.inv z_a0 (bZ k a0),.inv z4 (sF y6.2.2),.obj E 131 (.agg (.pair (I 0) (I 0)))],by kernel_rfl,by decide,?_⟩;refine ux 5 rfl ?_;refine sc rfl rfl (aS rfl jv trivial rfl rfl) ⟨rfl,rfl,trivial⟩ (by kernel_rfl) ?_;refine xI ?_;refine ce (SE.fin (Γ':=[(0,Pt c),(5,Pt b1),(7,.at (.arr 7 Tr) r2),(8,.eq (.map (some z4))),(9,Pt b5),(11,Pt E)]) (Δ':=[.obj E 131 (.agg (.pair (I j) (I u))),.obj c 125 (aU a0 z_a0),.obj b1 131 (.agg (.pair (I y6.1) (I y6.2.1))),.obj b5 131 (.agg (.pair (I (-1:Int)) (I 0))),.inv z_a0 (bZ k a0),.inv z4 (sF y6.2.2)]) [0,1,2,3,4,5] ⟨rfl,rfl,rfl,rfl,rfl,rfl,trivial⟩ rfl) ?_;refine tn (sr (mq ?_));refine fr 2 ?_;refine lo jv ?_;refine fr 1 ?_;refine lo jv ?_;refine eZ (eI (t:=bP) (x:=(y6.1,y6.2.1)) 53 rfl (.agg (.pair .int .int)) trivial rfl) ?_;obtain⟨UD,TO,h⟩:=aa h;refine eZ (eI (t:=bP) (x:=(j,u)) 54 rfl (.agg (.pair .int .int)) trivial rfl) ?_;refine fr 5 ?_;refine aV rfl rfl (ql (K:=kM) (V:=kM) (t:=(y6.1,y6.2.1)) (n:=(j,u)) (l:=y6.2.2) (λ_ _ _ h=>mI h) rfl Ez l6 (λ_ _ _ h=>mI h) (qc (ap TO)) (pZ _) qd) ⟨rfl,rfl,rfl,trivial⟩ ?_
    refine nt (ab (fr 1 ?_));refine lo jv ?_;refine fr 2 ?_;refine aV rfl rfl (aS rfl jv trivial rfl rfl) ⟨rfl,rfl,trivial⟩ ?_;refine aI (bn ?_);exact jz ((),(j,u,AN y6.2.2 (y6.1,y6.2.1) (j,u))) h [3,0,4,5,2]
 .
  refine ao ?_;exact jz ((),(x8.1,x8.2.1,x8.2.2)) h [0,1,2,3,4]
def kp(k:Nat)(r7:(List (fx×fx))):Nat->(Int×Int×(List Int))->Option (List Int)
 |0,_=>none
 |n+1,c=>
  (cM (yk (c.1,c.2.1))).bind λ_=>
  if¬((mT r7 (c.1,c.2.1) (0,0))=((-1:Int),0)) then((cM (yk (c.1,c.2.1))).bind λ_=>
  (cM (bW (length c.2.2+length [(mT r7 (c.1,c.2.1) (0,0)).1]))).bind λ_=>
  (cM (yk (c.1,c.2.1))).bind λ_=>
  kp k r7 n ((mT r7 (c.1,c.2.1) (0,0)).1,(mT r7 (c.1,c.2.1) (0,0)).2,c.2.2++[(mT r7 (c.1,c.2.1) (0,0)).1])) else(some c.2.2)
def rH(k:Nat)(a0:ae)(a1:(List Int))(a2:Int):Option ((List Int)×Int):=
 (jy k a0 a1 [a2] ([]:(List Int)) ([]:(List Int))).bind λr2=>
 f8 r2.1 (if¬(r2.2.2=0) then(some (([]:(List Int)),r2.2.2)) else(none)) (λq3=>if¬(r2.2.2=0) then(some (([]:(List Int)),r2.2.2)) else((ik k q3 r2.2.1 a2).bind λr5=>
 if r5 < 0 then(some (([]:(List Int)),11)) else((kY k q3 r2.2.1 (a2,r5)).bind λr7=>
 ((kp k r7 k (a2,r5,[a2])):Option ((List Int))).bind λc=>
 (jR k c).bind λe=>
 some (e,0))))
theorem wU(k:Nat)(a0:ae)(a1:(List Int))(a2:Int)(r:(List Int)×Int)(h:rH k a0 a1 a2=some r):
 bY (dV Tryz.prog) 48 [.rep ay a0,.rep Tl a1,I a2] [] (λ_:Unit=>(bM [.rep Tl r.1,I r.2],[])):=by
 unfold rH at h
 replace h:=bu h
 refine bY.of 64 Tryz.func48 rfl Tryz.ntmps48 rfl λS w0=>?_
 refine sr ?_
 refine bx λb1=>?_
 refine cq ?_
 refine cq ?_
 refine nt ?_
 refine sr ?_
 refine lo jP ?_
 iterate 2 refine mq ?_
 refine ja (bh (t:=Ti) [(.tmp 19,_)] [a2] rfl rfl dD (.cons rfl .int .nil) rfl rfl) ?_
 obtain⟨r2,Y,h⟩:=aa h
 have u:=lI k a0 a1 [a2] ([]:(List Int)) ([]:(List Int)) r2 Y
 rcases hr:r2.1 with _ |q3
 .
  rw [hr] at h u;replace h:=vb h;refine aN (Δ:=[]) (F:=_) (λ_ _ _=>ag rfl _) rfl rfl (bR (N:=[(.tmp 17,.rep ay a0),(.tmp 18,.rep Tl a1),(.tmp 20,.rep Tl [a2]),(.const (.slice none 0 0),.eq (.slice none 0 0)),(.const (.slice none 0 0),.eq (.slice none 0 0))]) (bb [.tmp 17,.tmp 18,.tmp 20,.const (.slice none 0 0),.const (.slice none 0 0)] rfl rfl ze rfl u) λ_ _ _ hn=>⟨hn.1,hn.2.1,hn.2.2.1,(aH (t:=Tl) (x:=([]:(List Int))) .nil rfl rfl hn.2.2.2.1),(aH (t:=Tl) (x:=([]:(List Int))) .nil rfl rfl hn.2.2.2.2.1),trivial⟩) ⟨rfl,rfl,rfl,rfl,rfl,trivial⟩ λ_=>?_;refine mq ?_;refine xr ?_;refine xr ?_;refine xr ?_;refine aq ?_;refine aq ?_;refine aq (nt (am (sr ?_)));refine mq ?_;refine jb (cG rfl) ?_;refine nt (cn h (λh=>?_) (λh=>?_))
  .refine sr (mq ?_);refine cq ?_;refine aq (nt (rx ?_));refine ce (eI (t:=Tl) (x:=([]:(List Int))) 6 rfl .nil rfl rfl) ?_;cases h;exact rb
  .cases h
 .
  rw [hr] at h u;replace h:=va h;refine aN (Δ:=[]) (F:=_) (λ_ _ _=>ag rfl _) rfl rfl (bR (N:=[(.tmp 17,.rep ay a0),(.tmp 18,.rep Tl a1),(.tmp 20,.rep Tl [a2]),(.const (.slice none 0 0),.eq (.slice none 0 0)),(.const (.slice none 0 0),.eq (.slice none 0 0))]) (bb [.tmp 17,.tmp 18,.tmp 20,.const (.slice none 0 0),.const (.slice none 0 0)] rfl rfl ze rfl u) λ_ _ _ hn=>⟨hn.1,hn.2.1,hn.2.2.1,(aH (t:=Tl) (x:=([]:(List Int))) .nil rfl rfl hn.2.2.2.1),(aH (t:=Tl) (x:=([]:(List Int))) .nil rfl rfl hn.2.2.2.2.1),trivial⟩) ⟨rfl,rfl,rfl,rfl,rfl,trivial⟩ λz4=>?_;refine mq ?_;refine xr ?_;refine xr ?_;refine xr ?_;refine aq ?_;refine aq ?_;refine aq (nt (am (sr ?_)));refine mq ?_;refine jb (cG rfl) ?_;refine nt (cn h (λh=>?_) (λh=>?_))
  .refine sr (mq ?_);refine cq ?_;refine aq (nt (rx ?_));refine ce (eI (t:=Tl) (x:=([]:(List Int))) 6 rfl .nil rfl rfl) ?_;cases h;exact rb
  .refine sk (sr ?_);iterate 3 refine mq ?_
   obtain⟨r5,X,h⟩:=aa h;refine fr 1 ?_;refine fr 1 ?_;refine aN (Δ:=[_,_]) (F:=_) (λ_ _ _=>ag rfl _) rfl rfl (bb [.tmp 28,.tmp 29,.tmp 30] rfl rfl PV rfl (kW k q3 z4.1 z4.2 r2.2.1 a2 r5 X)) ⟨rfl,rfl,rfl,trivial⟩ λ_=>?_;refine aq (nt (am (sr ?_)));refine mq ?_;refine jb (ba rfl) ?_;refine nt (ci h (λh=>?_) (λh=>?_))
   .refine sr (cq ?_);refine cq (nt (rx ?_));refine ce (eI (t:=Tl) (x:=([]:(List Int))) 6 rfl .nil rfl rfl) ?_;cases h;exact rb
   .refine sk (sr ?_);iterate 2 refine mq ?_
    refine jb (eu [(0,.tmp 34,_),(1,.tmp 35,_)] rfl F4 so Bf (j7 ⟨rfl,rfl,trivial⟩) rfl) ?_;refine bi rfl rfl rfl (bJ rfl so zA) trivial λb6=>?_;refine aV rfl rfl (aS rfl jv trivial rfl rfl) ⟨rfl,rfl,trivial⟩ ?_;refine nt (sr ?_);iterate 2 refine mq ?_
    refine lo jv ?_;obtain⟨r7,U,h⟩:=aa h;refine fr 2 ?_;refine fr 2 ?_;refine aN (Δ:=[_,_]) (F:=_) (λ_ _ _=>ag rfl _) rfl rfl (bR (N:=[(.tmp 37,.eq (.pointer (some ⟨z4.1,0,none⟩))),(.tmp 38,.eq (.int .u8 r2.2.1)),(.tmp 39,.agg (.pair (I a2) (I r5)))]) (bb [.tmp 37,.tmp 38,.tmp 39] rfl rfl RG rfl (qy k q3 z4.1 z4.2 r2.2.1 (a2,r5) r7 U)) λ_ _ _ hn=>⟨hn.1,hn.2.1,(aH (t:=bP) (x:=(a2,r5)) (.agg (.pair .int .int)) trivial rfl hn.2.2.1),trivial⟩) ⟨rfl,rfl,rfl,trivial⟩ λz8=>?_;refine aq (nt (sr ?_));refine mq ?_;refine bi rfl rfl rfl (mK (t:=Ti) [(.tmp 41,_)] [a2] rfl rfl dD (.cons rfl .int .nil) rfl rfl) ⟨rfl,trivial⟩ λv9=>?_;refine aq (nt ?_);refine aL (Z:=Value) (α:=(List Int)) (λj s=>[(13,.eq (.map (some z8))),(14,.eq j)]) (λj s=>[.sl j 3 Ti s,.inv z4.2 (bZ k q3),.inv z8 (sF r7)]) h (λK h=>?_) (λj s h=>?_)
    .refine sr (ja (eu [(0,.const (.int .i64 (-1)),_)] rfl F4 so Bf (j7 ⟨rfl,trivial⟩) rfl) ?_);refine bi rfl rfl rfl (bJ rfl so zA) trivial λmc=>?_;refine aV rfl rfl (aS rfl jv trivial rfl rfl) ⟨rfl,rfl,trivial⟩ ?_;refine nt (ak (aK (λe c=>[(12,Pt b6),(13,.eq (.map (some z8))),(14,.eq e.1),(15,.eq (.pointer (some ⟨e.2,0,none⟩)))]) (λe c=>[.obj b6 131 (.agg (.pair (I c.1) (I c.2.1))),.sl e.1 3 Ti c.2.2,.obj e.2 131 (.agg (.pair (I (-1:Int)) (I 0))),.inv z4.2 (bZ k q3),.inv z8 (sF r7)]) (kp k r7) k (v9,mc) (a2,r5,[a2]) (λ_=>rfl) h (SE.fin [5,1,0,4,2] ⟨rfl,rfl,rfl,rfl,trivial⟩ rfl) (λn e c h=>?_)));unfold kp at h;refine am (am (cV ?_));refine dm ?_;refine ea 0 (aE rfl jv (vE) rfl) ?_;obtain⟨zz,J,h⟩:=aa h;refine eb 4 (bR (N:=[(.tmp 44,.eq (.map (some z8))),(.tmp 45,.agg (.pair (I c.1) (I c.2.1)))]) (rm (K:=kM) (V:=kM) (t:=(c.1,c.2.1)) (l:=r7) (λn=>.rep bP n) tg rfl Ez (0,0) tf l6 (λ_ _ _ h=>mI h) (qc (ap J)) (pZ _) qd) λ_ _ _ hn=>⟨hn.1,(aH (t:=bP) (x:=(c.1,c.2.1)) (.agg (.pair .int .int)) trivial rfl hn.2.1),trivial⟩) ?_;refine ea 2 (aE rfl jv (vE) rfl) ?_;refine df eU ?_;refine eZ (eI (t:=bP) (x:=((-1:Int),0)) 47 rfl (.agg (.pair .int .int)) trivial rfl) ?_;refine jb (Nc rfl PO rfl) ?_;refine nt (cn h (λh=>?_) (λh=>?_))
     .refine sk (am (ak (ab ?_)));iterate 2 refine mq ?_
      refine lo jv ?_;refine eZ (eI (t:=bP) (x:=(c.1,c.2.1)) 54 rfl (.agg (.pair .int .int)) trivial rfl) ?_;obtain⟨u16,E,h⟩:=aa h;refine fr 4 ?_;refine kb (bR (N:=[(.tmp 53,.eq (.map (some z8))),(.tmp 54,.rep bP (c.1,c.2.1))]) (rm (K:=kM) (V:=kM) (t:=(c.1,c.2.1)) (l:=r7) (λn=>.rep bP n) tg rfl Ez (0,0) tf l6 (λ_ _ _ h=>mI h) (qc (ap E)) (pZ _) qd) λ_ _ _ hn=>⟨hn.1,hn.2.1,trivial⟩) ?_;refine ja (Jn rfl SD rfl cJ (λ_=>rfl) rfl rfl rfl) ?_;refine ja (bh (t:=Ti) [(.tmp 56,_)] [(mT r7 (c.1,c.2.1) (0,0)).1] rfl rfl dD (.cons rfl .int .nil) rfl rfl) ?_;obtain⟨qt,D,h⟩:=aa h;refine fr 2 ?_;refine eC rfl rfl rfl (cL rfl rfl dD (ap D)) ⟨rfl,rfl,trivial⟩ λO=>?_;refine aq (aI (aZ (tn (am (sr ?_)))));refine fr 3 ?_;refine lo jv ?_;refine nt (ab (bi rfl rfl rfl (bJ rfl so zA) trivial λgw=>?_));refine aV rfl rfl (aS rfl jv trivial rfl rfl) ⟨rfl,rfl,trivial⟩ ?_;refine nt (ab (mq ?_));refine fr 4 ?_;refine lo jv ?_;refine eZ (eI (t:=bP) (x:=(c.1,c.2.1)) 50 rfl (.agg (.pair .int .int)) trivial rfl) ?_;obtain⟨mw,y,h⟩:=aa h;refine fr 4 ?_;refine kb (bR (N:=[(.tmp 49,.eq (.map (some z8))),(.tmp 50,.rep bP (c.1,c.2.1))]) (rm (K:=kM) (V:=kM) (t:=(c.1,c.2.1)) (l:=r7) (λn=>.rep bP n) tg rfl Ez (0,0) tf l6 (λ_ _ _ h=>mI h) (qc (ap y)) (pZ _) qd) λ_ _ _ hn=>⟨hn.1,hn.2.1,trivial⟩) ?_;refine fr 1 ?_;refine aV rfl rfl (aS rfl jv rfl rfl rfl) ⟨rfl,rfl,trivial⟩ ?_;refine nl (ce (jt (a:=.rep bP (mT r7 (c.1,c.2.1) (0,0))) (a':=.agg (.pair (I ((mT r7 (c.1,c.2.1) (0,0)).1)) (I ((mT r7 (c.1,c.2.1) (0,0)).2)))) (AE.trans Dm (AE.agg (AE.trans zN (AE.pair AE.int AE.int))))) ?_);exact jz ((O,gw),((mT r7 (c.1,c.2.1) (0,0)).1,(mT r7 (c.1,c.2.1) (0,0)).2,c.2.2++[(mT r7 (c.1,c.2.1) (0,0)).1])) h [0,4,2,5,1]
     .refine xa ?_;exact jz (e.1,c.2.2) h [1,3,4]
    .refine sr (mq ?_);refine fr 2 ?_;refine aV rfl rfl (Gh rfl rfl Ez) ⟨rfl,trivial⟩ ?_;refine nt (sr (mq ?_));obtain⟨Q,M,h⟩:=aa h;refine fr 1 ?_;refine ka (aA [.tmp 61] rfl rfl RF rfl (pr k s j Q M)) ?_;refine nt (sr (mq ?_));refine aq ?_;refine cq (nt (aD ?_));refine ce (iS [6,14,61,63] ⟨rfl,rfl,rfl,rfl,trivial⟩) ?_;cases h;exact rb
def lJ(k:Nat)(a0:ae)(a1:Int)(r2:(Option ae)×(List Int)×Int)(q3:ae)(y7:(List Int)×Int):Nat->(Int×Int)->Option Int
 |0,_=>none
 |n+1,c=>
  if c.2 < (r2.2.1.length:Int) then((((aQ r2.2.1 c.2).bind λr=>
  (lB k q3 r).bind λu=>
  (aQ u a1).bind λl=>
  (aQ l y7.2).bind λj=>
  if a0.2.2.1≤j then((ck (c.1+1)).bind λh=>
  some h) else(some c.1)):Option (Int)).bind λs=>
  (ck (c.2+1)).bind λe=>
  lJ k a0 a1 r2 q3 y7 n (s,e)) else(some c.1)
def lK(k:Nat)(a0:ae)(a1:Int)(r2:(Option ae)×(List Int)×Int)(q3:ae):Nat->((List Int)×Int)->Option (List Int)
 |0,_=>none
 |n+1,y7=>
  if y7.2 < a0.1 then(((((lJ k a0 a1 r2 q3 y7 k (0,0)):Option (Int)).bind λc=>
  (ck ((r2.2.1.length:Int) - c)).bind λe=>
  (cM (bW (length y7.1+length [rN c e]))).bind λ_=>
  some (y7.1++[rN c e])):Option ((List Int))).bind λx9=>
  (ck (y7.2+1)).bind λh=>
  lK k a0 a1 r2 q3 n (x9,h)) else(some y7.1)
def tV(k:Nat)(a0:ae)(a1:Int):Option (Int×Int×Int):=
 (mi k a0 ([]:(List Int)) ([]:(List Int)) [a1]).bind λr2=>
 f8 r2.1 (if¬(r2.2.2=0) then(some (0,0,r2.2.2)) else(none)) (λq3=>if¬(r2.2.2=0) then(some (0,0,r2.2.2)) else(((lK k a0 a1 r2 q3 k (([]:(List Int)),0)):Option ((List Int))).bind λx5=>
 (lD k x5).bind λc=>
 if(r2.2.1.length:Int)≤c then(some (0,0,11)) else((f6 k x5 c).bind λe=>
 some (e,c,0))))
theorem yI(k:Nat)(a0:ae)(a1:Int)(r:Int×Int×Int)(h:tV k a0 a1=some r):
 bY (dV Tryz.prog) 49 [.rep ay a0,I a1] [] (λ_:Unit=>(bM [I r.1,I r.2.1,I r.2.2],[])):=by
 unfold tV at h
 replace h:=bu h
 refine bY.of 71 Tryz.func49 rfl Tryz.ntmps49 rfl λS w0=>?_
 refine sr ?_
 refine bx λb1=>?_
 refine cq ?_
 refine cq ?_
 refine cq ?_
 refine nt ?_
 refine sr ?_
 refine lo jP ?_
 refine mq ?_
 refine ja (bh (t:=Ti) [(.tmp 18,_)] [a1] rfl rfl dD (.cons rfl .int .nil) rfl rfl) ?_
 obtain⟨r2,TS,h⟩:=aa h
 have s:=mO k a0 ([]:(List Int)) ([]:(List Int)) [a1] r2 TS
 rcases hr:r2.1 with _ |q3
 .
  rw [hr] at h s;replace h:=vb h;refine aN (Δ:=[]) (F:=_) (λ_ _ _=>ag rfl _) rfl rfl (bR (N:=[(.tmp 17,.rep ay a0),(.const (.slice none 0 0),.eq (.slice none 0 0)),(.const (.slice none 0 0),.eq (.slice none 0 0)),(.tmp 19,.rep Tl [a1])]) (bb [.tmp 17,.const (.slice none 0 0),.const (.slice none 0 0),.tmp 19] rfl rfl D7 rfl s) λ_ _ _ hn=>⟨hn.1,(aH (t:=Tl) (x:=([]:(List Int))) .nil rfl rfl hn.2.1),(aH (t:=Tl) (x:=([]:(List Int))) .nil rfl rfl hn.2.2.1),hn.2.2.2.1,trivial⟩) ⟨rfl,rfl,rfl,rfl,trivial⟩ λ_=>?_;refine mq ?_;refine xr ?_;refine xr ?_;refine xr ?_;refine aq ?_;refine aq ?_;refine aq (nt (am (sr ?_)));refine mq ?_;refine jb (cG rfl) ?_;refine nt (cn h (λh=>?_) (λh=>?_))
  .refine sr (mq ?_);refine cq ?_;refine cq ?_;refine aq (nt (rx ?_));cases h;exact aR () [_,_,_] 0 ⟨rfl,rfl,rfl,trivial⟩ rfl
  .cases h
 .
  rw [hr] at h s;replace h:=va h;refine aN (Δ:=[]) (F:=_) (λ_ _ _=>ag rfl _) rfl rfl (bR (N:=[(.tmp 17,.rep ay a0),(.const (.slice none 0 0),.eq (.slice none 0 0)),(.const (.slice none 0 0),.eq (.slice none 0 0)),(.tmp 19,.rep Tl [a1])]) (bb [.tmp 17,.const (.slice none 0 0),.const (.slice none 0 0),.tmp 19] rfl rfl D7 rfl s) λ_ _ _ hn=>⟨hn.1,(aH (t:=Tl) (x:=([]:(List Int))) .nil rfl rfl hn.2.1),(aH (t:=Tl) (x:=([]:(List Int))) .nil rfl rfl hn.2.2.1),hn.2.2.2.1,trivial⟩) ⟨rfl,rfl,rfl,rfl,trivial⟩ λz4=>?_;refine mq ?_;refine xr ?_;refine xr ?_;refine xr ?_;refine aq ?_;refine aq ?_;refine aq (nt (am (sr ?_)));refine mq ?_;refine jb (cG rfl) ?_;refine nt (cn h (λh=>?_) (λh=>?_))
  .refine sr (mq ?_);refine cq ?_;refine cq ?_;refine aq (nt (rx ?_));cases h;exact aR () [_,_,_] 0 ⟨rfl,rfl,rfl,trivial⟩ rfl
  .refine sk (sr (cq (nt ?_)));refine aL (Z:=Value) (α:=(List Int)) (λz6 x5=>[(8,.rep (.slice (.int .u8)) r2.2.1),(10,.eq z6)]) (λz6 x5=>[.sl z6 3 Ti x5,.inv z4.2 (bZ k q3)]) h (λK h=>?_) (λz6 x5 h=>?_)
   .refine sr (fl gC ?_);refine fr 2 ?_;refine lo cJ ?_;refine ff rfl ?_;refine nt (ak (jN (SE.nil 3 Ti) ?_));refine aK (λz8 y7=>[(1,I a1),(2,Pt b1),(7,.eq (.pointer (some ⟨z4.1,0,none⟩))),(8,.rep (.slice (.int .u8)) r2.2.1),(10,.eq z8),(28,I a0.1),(29,I y7.2)]) (λz8 y7=>[.obj b1 26 (.rep ay a0),.obj z4.1 125 (aU q3 z4.2),.sl z8 3 Ti y7.1,.inv z4.2 (bZ k q3)]) (lK k a0 a1 r2 q3) k (.slice none 0 0) (([]:(List Int)),0) (λ_=>rfl) h (SE.fin [1,2,0,3] ⟨rfl,rfl,rfl,rfl,rfl,rfl,rfl,trivial⟩ rfl) (λn z8 y7 h=>?_);unfold lK at h;refine sr (jb (ba rfl) ?_);refine nt (am (ci h (λh=>?_) (λh=>?_)))
    .refine sk (aL (Z:=Value) (α:=(List Int)) (λe x9=>[(1,I a1),(2,Pt b1),(7,.eq (.pointer (some ⟨z4.1,0,none⟩))),(8,.rep (.slice (.int .u8)) r2.2.1),(10,.eq e),(28,I a0.1),(29,I y7.2)]) (λe x9=>[.obj b1 26 (.rep ay a0),.obj z4.1 125 (aU q3 z4.2),.sl e 3 Ti x9,.inv z4.2 (bZ k q3)]) h (λK h=>?_) (λe x9 h=>?_))
     .refine ak (sr (mq ?_));refine aq (nt (sr ?_));refine cq (nt ?_);refine aL (Z:=Unit) (α:=Int) (λE j=>[(1,I a1),(2,Pt b1),(7,.eq (.pointer (some ⟨z4.1,0,none⟩))),(8,.rep (.slice (.int .u8)) r2.2.1),(10,.eq z8),(12,I j),(28,I a0.1),(29,I y7.2)]) (λE j=>[.obj b1 26 (.rep ay a0),.obj z4.1 125 (aU q3 z4.2),.sl z8 3 Ti y7.1,.inv z4.2 (bZ k q3)]) h (λK h=>?_) (λE j h=>?_)
      .refine sr (mq ?_);refine ol zU ?_;refine ff rfl ?_;refine nt (ak (aK (λD c=>[(1,I a1),(2,Pt b1),(7,.eq (.pointer (some ⟨z4.1,0,none⟩))),(8,.rep (.slice (.int .u8)) r2.2.1),(10,.eq z8),(11,I y7.2),(12,I c.1),(28,I a0.1),(29,I y7.2),(32,.rep (.slice (.int .u8)) r2.2.1),(33,I (r2.2.1.length:Int)),(34,I c.2)]) (λD c=>[.obj b1 26 (.rep ay a0),.obj z4.1 125 (aU q3 z4.2),.sl z8 3 Ti y7.1,.inv z4.2 (bZ k q3)]) (lJ k a0 a1 r2 q3 y7) k () (0,0) (λ_=>rfl) h (SE.fin [0,1,2,3] ⟨rfl,rfl,rfl,rfl,rfl,rfl,rfl,rfl,rfl,rfl,rfl,rfl,trivial⟩ rfl) (λn D c h=>?_)));unfold lJ at h;refine sr (jb (ba rfl) ?_);refine nt (am (ci h (λh=>?_) (λh=>?_)))
       .refine sk (aL (Z:=Unit) (α:=Int) (λy l=>[(1,I a1),(2,Pt b1),(7,.eq (.pointer (some ⟨z4.1,0,none⟩))),(8,.rep (.slice (.int .u8)) r2.2.1),(10,.eq z8),(11,I y7.2),(12,I l),(28,I a0.1),(29,I y7.2),(32,.rep (.slice (.int .u8)) r2.2.1),(33,I (r2.2.1.length:Int)),(34,I c.2)]) (λy l=>[.obj b1 26 (.rep ay a0),.obj z4.1 125 (aU q3 z4.2),.sl z8 3 Ti y7.1,.inv z4.2 (bZ k q3)]) h (λK h=>?_) (λy l h=>?_))
        .refine ak (sr ?_);obtain⟨TN,gw,h⟩:=aa h;refine jb (aW (t:=(.int .u8)) rfl zU pn gw) ?_;refine ja (av (t:=(.int .u8)) rfl pn rfl) ?_;refine aq (nt (am ?_));refine cV ?_;refine dm ?_;refine dm ?_;obtain⟨TR,zz,h⟩:=aa h;refine Ol 1 3 rfl rfl (by kernel_rfl) rfl rfl rfl (bb [.tmp 38,.tmp 39] rfl rfl D8 rfl (oG k q3 z4.1 z4.2 TN TR zz)) ⟨rfl,rfl,trivial⟩ ?_;refine dm ?_;obtain⟨TV,Y,h⟩:=aa h;refine db (nK (t:=Tr) rfl Iy iV rfl rfl (vE) Y) ?_;refine dm ?_;obtain⟨TU,X,h⟩:=aa h;refine db (nK (t:=Ti) rfl Bm cJ rfl rfl (λ_=>rfl) X) ?_;refine da (aJ rfl xi) ?_;refine ea 0 (aE rfl cJ oU rfl) ?_;refine df eU ?_;refine jb (gq rfl) ?_;refine nt (ci h (λh=>?_) (λh=>?_))
         .refine ab (mq ?_);obtain⟨TM,U,h⟩:=aa h;refine jb (bg rfl U) ?_;refine aq (aI (bn ?_));exact jz ((),TM) h [0,1,2,3]
         .refine bp (bn ?_);exact jz ((),c.1) h [0,1,2,3]
        .refine ab ?_;obtain⟨TL,Q,h⟩:=aa h;refine jb (bg rfl Q) ?_;refine mq (nl ?_);exact jz ((),(l,TL)) h [0,1,2,3]
       .refine xa ?_;exact jz ((),c.1) h [0,1,2,3]
      .refine ab ?_;iterate 3 refine mq ?_
       refine ol zU ?_;refine mq ?_;obtain⟨J,O,h⟩:=aa h;refine jb (eG rfl O) ?_;refine jb (Ge rfl rfl) ?_;refine ja (bh (t:=Ti) [(.tmp 57,_)] [rN j J] rfl rfl dD (.cons rfl .int .nil) rfl rfl) ?_;obtain⟨TW,mc,h⟩:=aa h;refine fr 2 ?_;refine eC rfl rfl rfl (cL rfl rfl dD (ap mc)) ⟨rfl,rfl,trivial⟩ λTO=>?_;refine aq (aI (bn ?_));exact jz (TO,y7.1++[rN j J]) h [1,2,0,3]
     .refine ab ?_;obtain⟨TK,M,h⟩:=aa h;refine jb (bg rfl M) ?_;refine mq (nl ?_);exact jz (e,(x9,TK)) h [0,1,2,3]
    .refine xa ?_;exact jz (z8,y7.1) h [2,3]
   .refine sr (mq ?_);obtain⟨u,qt,h⟩:=aa h;refine ka (lq (N:=[(.tmp 61,.eq z6)]) (aA [.tmp 61] rfl rfl PU rfl (nD k x5 u qt)) (λ_ _ _ hv hn=>⟨(lend hn.1 hv),trivial⟩) (λ_=>⟨rfl,nV⟩)) ?_;refine aq (nt (am (sr ?_)));iterate 2 refine mq ?_
    refine ol zU ?_;refine jb (gq rfl) ?_;refine nt (ci h (λh=>?_) (λh=>?_))
    .refine sr (cq ?_);refine cq ?_;refine cq (nt (rx ?_));cases h;exact aR () [_,_,_] 0 ⟨rfl,rfl,rfl,trivial⟩ rfl
    .refine sk (sr ?_);iterate 2 refine mq ?_
     obtain⟨TP,mw,h⟩:=aa h;refine kb (lq (N:=[(.tmp 67,.eq z6),(.tmp 68,I u)]) (aA [.tmp 67,.tmp 68] rfl rfl PR rfl (l8 k x5 u TP mw)) (λ_ _ _ hv hn=>⟨(lend hn.1 hv),hn.2.1,trivial⟩) (λ_=>⟨rfl,nV⟩)) ?_;refine mq ?_;refine aq ?_;refine aq ?_;refine cq (nt (aD ?_));cases h;exact aR () [_,_,_] 0 ⟨rfl,rfl,rfl,trivial⟩ rfl
def jm(k:Nat)(a1:Int)(a2:Int)(y4:(List (List (List Int)))×Int)(h:(List Int)):Nat->((List Int)×Int)->Option (List Int)
 |0,_=>none
 |n+1,c=>
  if c.2 < (h.length:Int) then((((aQ h c.2).bind λe=>
  ((if y4.2 < a1 then(some true) else((eO k a2 e).bind λs=>
  some (!s))):Option (Bool)).bind λl=>
  if l=true then((cM (bW (length c.1+length [e]))).bind λ_=>
  some (c.1++[e])) else(some c.1)):Option ((List Int))).bind λr=>
  (ck (c.2+1)).bind λj=>
  jm k a1 a2 y4 h n (r,j)) else(some c.1)
def jo(k:Nat)(a1:Int)(a2:Int)(y4:(List (List (List Int)))×Int)(x8:(List (List Int))):Nat->((List (List Int))×Int)->Option (List (List Int))
 |0,_=>none
 |n+1,c=>
  if c.2 < (x8.length:Int) then((((aQ x8 c.2).bind λj=>
  ((jm k a1 a2 y4 j k (([]:(List Int)),0)):Option ((List Int))).bind λe=>
  (cM (bW (length c.1+length [e]))).bind λ_=>
  some (c.1++[e])):Option ((List (List Int)))).bind λl=>
  (ck (c.2+1)).bind λh=>
  jo k a1 a2 y4 x8 n (l,h)) else(some c.1)
def jp(k:Nat)(a0:ae)(a1:Int)(a2:Int):Nat->((List (List (List Int)))×Int)->Option (List (List (List Int)))
 |0,_=>none
 |n+1,y4=>
  if y4.2 < (a0.2.2.2.2.1.length:Int) then((((aQ a0.2.2.2.2.1 y4.2).bind λx8=>
  ((jo k a1 a2 y4 x8 k (([]:(List (List Int))),0)):Option ((List (List Int)))).bind λx9=>
  (cM (bW (length y4.1+length [x9]))).bind λ_=>
  some (y4.1++[x9])):Option ((List (List (List Int))))).bind λx6=>
  (ck (y4.2+1)).bind λc=>
  jp k a0 a1 a2 n (x6,c)) else(some y4.1)
def mP(k:Nat)(a0:ae)(a1:Int)(a2:Int):Option (Option ae):=
 ((jp k a0 a1 a2 k (([]:(List (List (List Int)))),0)):Option ((List (List (List Int))))).bind λx2=>
 (iJ k (a0.1,a0.2.1,a0.2.2.1,a0.2.2.2.1,x2,a0.2.2.2.2.2)).bind λc=>
 f8 c (some none) (λe=>some (some e))
theorem uY(k:Nat)(a0:ae)(a1:Int)(a2:Int)(r:(Option ae))(h:mP k a0 a1 a2=some r):
 dB Tryz.prog 83 [.rep ay a0,I a1,.eq (.int .u8 a2)] [] (λz:Nat×Nat=>(bM [Jg r z.1],Jf r λq=>pW q z.1 z.2 k)):=by
 unfold mP at h
 replace h:=bu h
 refine dB.of 69 Tryz.func83 rfl Tryz.ntmps83 rfl λS w0=>?_
 refine sr ?_
 refine bx λb1=>?_
 refine cq ?_
 refine nt ?_
 refine sr ?_
 refine fl dZ ?_
 refine lo jQ ?_
 refine mq ?_
 refine ja (rl [.tmp 19] [] [(.int .u8 a2)] [] rfl rfl rfl) ?_
 refine aq ?_
 refine aq ?_
 refine nt ?_
 refine sr ?_
 refine fl dZ ?_
 refine aV rfl rfl (aS rfl jQ rfl rfl rfl) ⟨rfl,rfl,trivial⟩ ?_
 refine nt ?_
 refine aL (Z:=Value) (α:=(List (List (List Int)))) (λz3 x2=>[(3,Pt b1)]) (λz3 x2=>[.obj b1 26 (.agg (.pair (I a0.1) (.pair (I a0.2.1) (.pair (I a0.2.2.1) (.pair (I a0.2.2.2.1) (.pair (.eq z3) (Rs bL a0.2.2.2.2.2))))))),.sl z3 30 (.slice Tl) x2]) h (λK h=>?_) (λz3 x2 h=>?_)
 .
  refine sr (mq ?_);refine ol xF ?_;refine ff rfl ?_;refine nt (ak (jN (SE.nil 30 (.slice Tl)) ?_));refine dS 1 rfl ?_;refine jN (jt (a:=.agg (.pair (.rep Ti a0.1) (.pair (.rep Ti a0.2.1) (.pair (.rep Ti a0.2.2.1) (.pair (.rep Ti a0.2.2.2.1) (.pair (.eq (.slice none 0 0)) (Rs bL a0.2.2.2.2.2))))))) (a':=.agg (.pair (I a0.1) (.pair (I a0.2.1) (.pair (I a0.2.2.1) (.pair (I a0.2.2.2.1) (.pair (.eq (.slice none 0 0)) (Rs bL a0.2.2.2.2.2))))))) (AE.agg (AE.pair AE.int (AE.pair AE.int (AE.pair AE.int (AE.pair AE.int AE.rfl)))))) ?_;refine aK (λz5 y4=>[(1,I a1),(3,Pt b1),(8,.eq (.func (.func 75) #[(.int .u8 a2)] #[])),(22,.rep (.slice (.slice Tl)) a0.2.2.2.2.1),(23,I (a0.2.2.2.2.1.length:Int)),(24,I y4.2)]) (λz5 y4=>[.obj b1 26 (.agg (.pair (I a0.1) (.pair (I a0.2.1) (.pair (I a0.2.2.1) (.pair (I a0.2.2.2.1) (.pair (.eq z5) (Rs bL a0.2.2.2.2.2))))))),.sl z5 30 (.slice Tl) y4.1]) (jp k a0 a1 a2) k (.slice none 0 0) (([]:(List (List (List Int)))),0) (λ_=>rfl) h (SE.fin [0,1] ⟨rfl,rfl,rfl,rfl,rfl,rfl,trivial⟩ rfl) (λn z5 y4 h=>?_);unfold jp at h;refine sr (jb (ba rfl) ?_);refine nt (am (ci h (λh=>?_) (λh=>?_)))
  .refine sk (aL (Z:=Value) (α:=(List (List (List Int)))) (λz7 x6=>[(1,I a1),(3,Pt b1),(8,.eq (.func (.func 75) #[(.int .u8 a2)] #[])),(22,.rep (.slice (.slice Tl)) a0.2.2.2.2.1),(23,I (a0.2.2.2.2.1.length:Int)),(24,I y4.2)]) (λz7 x6=>[.obj b1 26 (.agg (.pair (I a0.1) (.pair (I a0.2.1) (.pair (I a0.2.2.1) (.pair (I a0.2.2.2.1) (.pair (.eq z7) (Rs bL a0.2.2.2.2.2))))))),.sl z7 30 (.slice Tl) x6]) h (λK h=>?_) (λz7 x6 h=>?_))
   .refine ak (sr (mq ?_));obtain⟨x8,T9,h⟩:=aa h;refine jb (aW (t:=(.slice Tl)) rfl xF sG T9) ?_;refine ja (av (t:=(.slice Tl)) rfl sG rfl) ?_;refine aq ?_;refine aq (nt (sr ?_));refine cq (nt ?_);refine aL (Z:=Value) (α:=(List (List Int))) (λQ x9=>[(1,I a1),(3,Pt b1),(8,.eq (.func (.func 75) #[(.int .u8 a2)] #[])),(11,.eq Q),(22,.rep (.slice (.slice Tl)) a0.2.2.2.2.1),(23,I (a0.2.2.2.2.1.length:Int)),(24,I y4.2)]) (λQ x9=>[.obj b1 26 (.agg (.pair (I a0.1) (.pair (I a0.2.1) (.pair (I a0.2.2.1) (.pair (I a0.2.2.2.1) (.pair (.eq z5) (Rs bL a0.2.2.2.2.2))))))),.sl z5 30 (.slice Tl) y4.1,.sl Q 22 Tl x9]) h (λK h=>?_) (λQ x9 h=>?_)
    .refine sr (mq ?_);refine ol qL ?_;refine ff rfl ?_;refine nt (ak (jN (SE.nil 22 Tl) ?_));refine aK (λe c=>[(1,I a1),(3,Pt b1),(8,.eq (.func (.func 75) #[(.int .u8 a2)] #[])),(9,I y4.2),(11,.eq e),(22,.rep (.slice (.slice Tl)) a0.2.2.2.2.1),(23,I (a0.2.2.2.2.1.length:Int)),(24,I y4.2),(29,.rep (.slice Tl) x8),(30,I (x8.length:Int)),(31,I c.2)]) (λe c=>[.obj b1 26 (.agg (.pair (I a0.1) (.pair (I a0.2.1) (.pair (I a0.2.2.1) (.pair (I a0.2.2.2.1) (.pair (.eq z5) (Rs bL a0.2.2.2.2.2))))))),.sl z5 30 (.slice Tl) y4.1,.sl e 22 Tl c.1]) (jo k a1 a2 y4 x8) k (.slice none 0 0) (([]:(List (List Int))),0) (λ_=>rfl) h (SE.fin [1,2,0] ⟨rfl,rfl,rfl,rfl,rfl,rfl,rfl,rfl,rfl,rfl,rfl,trivial⟩ rfl) (λn e c h=>?_);unfold jo at h;refine sr (jb (ba rfl) ?_);refine nt (am (ci h (λh=>?_) (λh=>?_)))
     .refine sk (aL (Z:=Value) (α:=(List (List Int))) (λE X=>[(1,I a1),(3,Pt b1),(8,.eq (.func (.func 75) #[(.int .u8 a2)] #[])),(9,I y4.2),(11,.eq E),(22,.rep (.slice (.slice Tl)) a0.2.2.2.2.1),(23,I (a0.2.2.2.2.1.length:Int)),(24,I y4.2),(29,.rep (.slice Tl) x8),(30,I (x8.length:Int)),(31,I c.2)]) (λE X=>[.obj b1 26 (.agg (.pair (I a0.1) (.pair (I a0.2.1) (.pair (I a0.2.2.1) (.pair (I a0.2.2.2.1) (.pair (.eq z5) (Rs bL a0.2.2.2.2.2))))))),.sl z5 30 (.slice Tl) y4.1,.sl E 22 Tl X]) h (λK h=>?_) (λE X h=>?_))
      .refine ak (sr ?_);obtain⟨u,TN,h⟩:=aa h;refine jb (aW (t:=Tl) rfl qL gY TN) ?_;refine ja (av (t:=Tl) rfl gY rfl) ?_;refine aq (nt (sr ?_));refine cq (nt ?_);refine aL (Z:=Value) (α:=(List Int)) (λO M=>[(1,I a1),(3,Pt b1),(8,.eq (.func (.func 75) #[(.int .u8 a2)] #[])),(9,I y4.2),(11,.eq e),(14,.eq O),(22,.rep (.slice (.slice Tl)) a0.2.2.2.2.1),(23,I (a0.2.2.2.2.1.length:Int)),(24,I y4.2),(29,.rep (.slice Tl) x8),(30,I (x8.length:Int)),(31,I c.2)]) (λO M=>[.obj b1 26 (.agg (.pair (I a0.1) (.pair (I a0.2.1) (.pair (I a0.2.2.1) (.pair (I a0.2.2.2.1) (.pair (.eq z5) (Rs bL a0.2.2.2.2.2))))))),.sl z5 30 (.slice Tl) y4.1,.sl e 22 Tl c.1,.sl O 3 Ti M]) h (λK h=>?_) (λO M h=>?_)
       .refine sr (mq ?_);refine ol fD ?_;refine ff rfl ?_;refine nt (ak (jN (SE.nil 3 Ti) ?_));refine aK (λl j=>[(1,I a1),(3,Pt b1),(8,.eq (.func (.func 75) #[(.int .u8 a2)] #[])),(9,I y4.2),(11,.eq e),(14,.eq l),(22,.rep (.slice (.slice Tl)) a0.2.2.2.2.1),(23,I (a0.2.2.2.2.1.length:Int)),(24,I y4.2),(29,.rep (.slice Tl) x8),(30,I (x8.length:Int)),(31,I c.2),(35,.rep Tl u),(36,I (u.length:Int)),(37,I j.2)]) (λl j=>[.obj b1 26 (.agg (.pair (I a0.1) (.pair (I a0.2.1) (.pair (I a0.2.2.1) (.pair (I a0.2.2.2.1) (.pair (.eq z5) (Rs bL a0.2.2.2.2.2))))))),.sl z5 30 (.slice Tl) y4.1,.sl e 22 Tl c.1,.sl l 3 Ti j.1]) (jm k a1 a2 y4 u) k (.slice none 0 0) (([]:(List Int)),0) (λ_=>rfl) h (SE.fin [1,2,3,0] ⟨rfl,rfl,rfl,rfl,rfl,rfl,rfl,rfl,rfl,rfl,rfl,rfl,rfl,rfl,rfl,trivial⟩ rfl) (λn l j h=>?_);unfold jm at h;refine sr (jb (ba rfl) ?_);refine nt (am (ci h (λh=>?_) (λh=>?_)))
        .refine sk (aL (Z:=Value) (α:=(List Int)) (λD U=>[(1,I a1),(3,Pt b1),(8,.eq (.func (.func 75) #[(.int .u8 a2)] #[])),(9,I y4.2),(11,.eq e),(14,.eq D),(22,.rep (.slice (.slice Tl)) a0.2.2.2.2.1),(23,I (a0.2.2.2.2.1.length:Int)),(24,I y4.2),(29,.rep (.slice Tl) x8),(30,I (x8.length:Int)),(31,I c.2),(35,.rep Tl u),(36,I (u.length:Int)),(37,I j.2)]) (λD U=>[.obj b1 26 (.agg (.pair (I a0.1) (.pair (I a0.2.1) (.pair (I a0.2.2.1) (.pair (I a0.2.2.2.1) (.pair (.eq z5) (Rs bL a0.2.2.2.2.2))))))),.sl z5 30 (.slice Tl) y4.1,.sl e 22 Tl c.1,.sl D 3 Ti U]) h (λK h=>?_) (λD U h=>?_))
         .refine ak (sr ?_);obtain⟨J,TM,h⟩:=aa h;refine jb (aW (t:=Ti) rfl fD cJ TM) ?_;refine ja (av (t:=Ti) rfl cJ rfl) ?_;refine aq (nt ?_);refine aL (Z:=Unit) (α:=Bool) (λmc gw=>[(1,I a1),(3,Pt b1),(8,.eq (.func (.func 75) #[(.int .u8 a2)] #[])),(9,I y4.2),(11,.eq e),(14,.eq l),(16,I J),(22,.rep (.slice (.slice Tl)) a0.2.2.2.2.1),(23,I (a0.2.2.2.2.1.length:Int)),(24,I y4.2),(29,.rep (.slice Tl) x8),(30,I (x8.length:Int)),(31,I c.2),(35,.rep Tl u),(36,I (u.length:Int)),(37,I j.2),(49,.eq (.bool gw))]) (λmc gw=>[.obj b1 26 (.agg (.pair (I a0.1) (.pair (I a0.2.1) (.pair (I a0.2.2.1) (.pair (I a0.2.2.2.1) (.pair (.eq z5) (Rs bL a0.2.2.2.2.2))))))),.sl z5 30 (.slice Tl) y4.1,.sl e 22 Tl c.1,.sl l 3 Ti j.1]) h (λK h=>?_) (λmc gw h=>?_)
          .refine ab ?_;iterate 2 refine mq ?_
           refine jb (ba rfl) ?_;refine mq ?_;refine an (s:=44) rfl (λhb=>?_) (λhb=>?_)
           .replace h:=be (gV hb) h;iterate 4 refine gn ?_
            refine pt (nl ?_);exact jz ((),true) h [0,1,2,3]
           .replace h:=aC (gW hb) h;refine gm ?_;refine gm ?_;obtain⟨qt,TU,h⟩:=aa h;refine gb (sZ (fs:=[(.int .u8 a2)]) (cs:=[]) (ags:=[I J]) [.tmp 46] rfl rfl Ht rfl (gx k a2 J qt TU)) ?_;refine ga (iY rfl) ?_;refine pf (nl ?_);exact jz ((), !qt) h [0,1,2,3]
          .refine cv h (λh=>?_) (λh=>?_)
           .refine ab ?_;iterate 2 refine mq ?_
            refine ja (bh (t:=Ti) [(.tmp 51,_)] [J] rfl rfl dD (.cons rfl .int .nil) rfl rfl) ?_;obtain⟨Ub,TR,h⟩:=aa h;refine fr 3 ?_;refine eC rfl rfl rfl (cL rfl rfl dD (ap TR)) ⟨rfl,rfl,trivial⟩ λT8=>?_;refine aq (aI (bn ?_));exact jz (T8,j.1++[J]) h [1,2,3,0]
           .refine bp (bn ?_);exact jz (l,j.1) h [0,1,2,3]
         .refine ab ?_;obtain⟨TX,TL,h⟩:=aa h;refine jb (bg rfl TL) ?_;refine mq (nl ?_);exact jz (D,(U,TX)) h [0,1,2,3]
        .refine xa ?_;exact jz (l,j.1) h [0,1,2,3]
       .refine ab ?_;iterate 2 refine mq ?_
        refine fr 3 ?_;refine eZ (iS [14,56] ⟨rfl,rfl,trivial⟩) ?_;refine ja (bh (t:=Tl) [(.tmp 56,_)] [M] rfl rfl oR (.cons rfl .rep .nil) rfl rfl) ?_;obtain⟨Ua,TP,h⟩:=aa h;refine fr 2 ?_;refine eC rfl rfl rfl (cL rfl rfl oR (ap TP)) ⟨rfl,rfl,trivial⟩ λTZ=>?_;refine aq (aI (bn ?_));exact jz (TZ,c.1++[M]) h [1,2,0]
      .refine ab ?_;obtain⟨TW,TK,h⟩:=aa h;refine jb (bg rfl TK) ?_;refine mq (nl ?_);exact jz (E,(X,TW)) h [0,1,2]
     .refine xa ?_;exact jz (e,c.1) h [0,1,2]
    .refine ab (fl dZ ?_);refine lo jQ ?_;refine mq ?_;refine fr 2 ?_;refine eZ (iS [11,62] ⟨rfl,rfl,trivial⟩) ?_;refine ja (bh (t:=(.slice Tl)) [(.tmp 62,_)] [x9] rfl rfl Ai (.cons rfl .rep .nil) rfl rfl) ?_;obtain⟨u32,TO,h⟩:=aa h;refine fr 1 ?_;refine eC rfl rfl rfl (cL rfl rfl Ai (ap TO)) ⟨rfl,rfl,trivial⟩ λTY=>?_;refine fl dZ ?_;refine uy λo34=>?_;refine fr 1 ?_;refine aV rfl rfl (aS rfl jQ o34 rfl rfl) ⟨rfl,rfl,trivial⟩ ?_;refine aI (bn ?_);exact jz (TY,y4.1++[x9]) h [0,1]
   .refine ab ?_;obtain⟨TV,zz,h⟩:=aa h;refine jb (bg rfl zz) ?_;refine mq (nl ?_);exact jz (z7,(x6,TV)) h [0,1]
  .refine xa ?_;exact jz (z5,y4.1) h [0,1]
 .
  refine sr (fr 1 ?_);refine eZ (pU (off:=4) [] trivial rfl rfl) ?_;refine lo jP ?_;obtain⟨mw,TS,h⟩:=aa h;have y:=ng k (a0.1,a0.2.1,a0.2.2.1,a0.2.2.2.1,x2,a0.2.2.2.2.2) mw TS;rcases hr:mw with _ |Uc
  .rw [hr] at h y;replace h:=vb h;refine aN (Δ:=[]) (F:=_) (λ_ _ _=>ag rfl _) rfl rfl (bR (N:=[(.tmp 67,.agg (.pair (I a0.1) (.pair (I a0.2.1) (.pair (I a0.2.2.1) (.pair (I a0.2.2.2.1) (.pair (.rep (.slice (.slice Tl)) x2) (Rs bL a0.2.2.2.2.2)))))))]) (aA [.tmp 67] rfl rfl Kp rfl y) λ_ _ _ hn=>⟨(aH (t:=ay) (x:=(a0.1,a0.2.1,a0.2.2.1,a0.2.2.2.1,x2,a0.2.2.2.2.2)) (.agg (.pair .int (.pair .int (.pair .int (.pair .int (.pair .rep .rep)))))) trivial rfl hn.1),trivial⟩) ⟨rfl,trivial⟩ λ_=>?_;refine aq (nt (aD ?_));cases h;exact aR (0,0) [.eq (.pointer none)] 0 ⟨rfl,trivial⟩ rfl
  .rw [hr] at h y;replace h:=va h;refine aN (Δ:=[]) (F:=_) (λ_ _ _=>ag rfl _) rfl rfl (bR (N:=[(.tmp 67,.agg (.pair (I a0.1) (.pair (I a0.2.1) (.pair (I a0.2.2.1) (.pair (I a0.2.2.2.1) (.pair (.rep (.slice (.slice Tl)) x2) (Rs bL a0.2.2.2.2.2)))))))]) (aA [.tmp 67] rfl rfl Kp rfl y) λ_ _ _ hn=>⟨(aH (t:=ay) (x:=(a0.1,a0.2.1,a0.2.2.1,a0.2.2.2.1,x2,a0.2.2.2.2.2)) (.agg (.pair .int (.pair .int (.pair .int (.pair .int (.pair .rep .rep)))))) trivial rfl hn.1),trivial⟩) ⟨rfl,trivial⟩ λY=>?_;refine aq (nt (aD ?_));cases h;exact aR (Y.1,Y.2) [.eq (.pointer (some ⟨Y.1,0,none⟩))] 2 ⟨rfl,trivial⟩ rfl
def eQ(k:Nat)(a0:ae)(r1:(List (List Int)))(y5:Int):Nat->Int->Option (Except Bool Unit)
 |0,_=>none
 |n+1,c=>
  if c < a0.1 then((((aQ r1 y5).bind λs=>
  (aQ s c).bind λr=>
  if r < 0 then((ck (y5+1)).bind λl=>
  (aQ r1 l).bind λj=>
  (aQ j c).bind λh=>
  some (decide (h=0))) else(some false)):Option (Bool)).bind λu=>
  if u=true then(some (.error true)) else((ck (c+1)).bind λe=>
  eQ k a0 r1 y5 n e)) else(some (.ok ()))
def eR(k:Nat)(a0:ae)(r1:(List (List Int))):Nat->Int->Option (Except Bool Unit)
 |0,_=>none
 |n+1,y5=>
  if y5 < (a0.2.2.2.2.1.length:Int) then(bE (α:=Unit) ((ck (y5+1)).bind λx9=>
  (aQ r1 x9).bind λh=>
  (aQ r1 y5).bind λc=>
  (cM (wE h/\wE c)).bind λ_=>
  if h=c then(some (.ok ())) else(eQ k a0 r1 y5 k 0)) (λe=>some (.error e)) λ_=>
  (ck (y5+1)).bind λj=>
  eR k a0 r1 n j) else(some (.ok ()))
def iK(k:Nat)(a0:ae)(a1:Int)(a2:Int):Option Bool:=
 (lB k a0 a1).bind λr1=>
 bE (α:=Unit) (eR k a0 r1 k a2) (some) λ_=>
 some false
theorem nP(k:Nat)(a0:ae)(c z_a0:Nat)(a1:Int)(a2:Int)(r:Bool)(h:iK k a0 a1 a2=some r):
 bY (dV Tryz.prog) 85 [Pt c,.eq (.int .u8 a1),I a2] [.obj c 125 (aU a0 z_a0),.inv z_a0 (bZ k a0)] (λ_:Unit=>(bM [.eq (.bool r)],[.obj c 125 (aU a0 z_a0),.inv z_a0 (bZ k a0)])):=by
 unfold iK at h
 replace h:=bu h
 refine bY.of 56 Tryz.func85 rfl Tryz.ntmps85 rfl λS w0=>?_
 refine sr ?_
 refine cq ?_
 refine nt ?_
 refine sr ?_
 iterate 2 refine mq ?_
 obtain⟨r1,TK,h⟩:=aa h
 have TL:=oG k a0 c z_a0 a1 r1 TK
 refine fr 1 ?_
 refine fr 1 ?_
 refine aN (Δ:=[_,_]) (F:=_) (λ_ _ _=>ag rfl _) rfl rfl (bb [.tmp 10,.tmp 11] rfl rfl D8 rfl TL) ⟨rfl,rfl,trivial⟩ λ_=>?_
 refine bi rfl rfl rfl (bJ rfl EO HQ) trivial λb2=>?_
 refine aV rfl rfl (aS rfl Fv rfl rfl rfl) ⟨rfl,rfl,trivial⟩ ?_
 refine eZ (jh (t:=(.arr 7 Tr)) (x:=r1) [7] .rep ⟨rfl,trivial⟩) ?_
 refine nt ?_
 refine dq (Z:=Unit) (α:=Unit) (λz4 x3=>[]) (λz4 x3=>[.obj c 125 (aU a0 z_a0),.inv z_a0 (bZ k a0)]) (λe=>e=r) h (λe h=>Option.some.inj h) (λK hR h=>?_) (λz4 x3 h=>?_)
 .
  refine sr (mq ?_);refine aq (nt (ak ?_));refine aK (λz6 y5=>[(0,Pt c),(7,.at (.arr 7 Tr) r1),(8,I y5)]) (λz6 y5=>[.obj c 125 (aU a0 z_a0),.inv z_a0 (bZ k a0)]) (eR k a0 r1) k () a2 (λ_=>rfl) h (SE.fin [0,1] ⟨rfl,rfl,rfl,trivial⟩ rfl) (λn z6 y5 h=>?_);unfold eR at h;refine am (sr ?_);iterate 2 refine mq ?_
  refine ja (cN rfl) ?_;refine fl gQ ?_;refine fl dZ ?_;refine lo jQ ?_;refine ol xF ?_;refine jb (ba rfl) ?_;refine nt (ci h (λh=>?_) (λh=>?_))
  .refine sk (dq (Z:=Unit) (α:=Unit) (λz8 x7=>[(0,Pt c),(7,.at (.arr 7 Tr) r1),(8,I y5)]) (λz8 x7=>[.obj c 125 (aU a0 z_a0),.inv z_a0 (bZ k a0)]) (λe=>e=r) h (λe h=>hR e h) (λK hR h=>?_) (λz8 x7 h=>?_))
   .refine ak (am (am (cV ?_)));refine dm ?_;obtain⟨x9,zz,h⟩:=aa h;refine db (bg rfl zz) ?_;obtain⟨TS,gw,h⟩:=aa h;refine db (cp (t:=Tr) rfl Iy iV gw) ?_;refine da (av (t:=Tr) rfl iV rfl) ?_;refine dm ?_;obtain⟨TR,Y,h⟩:=aa h;refine db (cp (t:=Tr) rfl Iy iV Y) ?_;refine da (av (t:=Tr) rfl iV rfl) ?_;refine df eU ?_;obtain⟨TU,l,h⟩:=aa h;refine jb (Gg rfl (ap l).1 (ap l).2) ?_;refine nt (ci h (λh=>?_) (λh=>?_))
    .refine fg (bK (cX (ao ?_)));exact jz ((),()) h [0,1]
    .refine sk (sr (mq ?_));refine ja (cN rfl) ?_;refine fl gQ ?_;refine fl gC ?_;refine lo cJ ?_;refine ff rfl ?_;refine nt (ak (aK (λD j=>[(0,Pt c),(7,.at (.arr 7 Tr) r1),(8,I y5),(36,I a0.1),(37,I j)]) (λD j=>[.obj c 125 (aU a0 z_a0),.inv z_a0 (bZ k a0)]) (eQ k a0 r1 y5) k () 0 (λ_=>rfl) h (SE.fin [0,1] ⟨rfl,rfl,rfl,rfl,rfl,trivial⟩ rfl) (λn D j h=>?_)));unfold eQ at h;refine sr (jb (ba rfl) ?_);refine nt (am (ci h (λh=>?_) (λh=>?_)))
     .refine sk (am (ak (sr (mq ?_))));refine aq (nt ?_);refine aL (Z:=Unit) (α:=Bool) (λy u=>[(0,Pt c),(7,.at (.arr 7 Tr) r1),(8,I y5),(36,I a0.1),(37,I j),(54,.eq (.bool u))]) (λy u=>[.obj c 125 (aU a0 z_a0),.inv z_a0 (bZ k a0)]) h (λK h=>?_) (λy u h=>?_)
      .refine ab ?_;iterate 2 refine mq ?_
       obtain⟨TP,X,h⟩:=aa h;refine jb (cp (t:=Tr) rfl Iy iV X) ?_;obtain⟨TO,U,h⟩:=aa h;refine jb (cp (t:=Ti) rfl Bm cJ U) ?_;refine ja (av (t:=Ti) rfl cJ rfl) ?_;refine jb (ba rfl) ?_;refine mq ?_;refine an (s:=46) rfl (λhb=>?_) (λhb=>?_)
       .replace h:=be (gV hb) h;refine gm ?_;obtain⟨TN,Q,h⟩:=aa h;refine gb (bg rfl Q) ?_;refine gm ?_;obtain⟨TM,O,h⟩:=aa h;refine gb (cp (t:=Tr) rfl Iy iV O) ?_;obtain⟨qt,M,h⟩:=aa h;refine gb (cp (t:=Ti) rfl Bm cJ M) ?_;refine ga (av (t:=Ti) rfl cJ rfl) ?_;refine gb (dP rfl) ?_;refine pt (nl ?_);exact jz ((),decide (qt=0)) h [0,1]
       .replace h:=aC (gW hb) h;iterate 7 refine gn ?_
        refine pf (nl ?_);exact jz ((),false) h [0,1]
      .refine cv h (λh=>?_) (λh=>?_)
       .refine sr (cq (nt (aD (br (bD (br (bD (bG ?_))))))));obtain rfl:=hR _ h;exact aR () [_] 2 ⟨rfl,trivial⟩ rfl
       .refine bp (aZ (tn (ab ?_)));obtain⟨mw,J,h⟩:=aa h;refine jb (bg rfl J) ?_;refine mq (nl ?_);exact jz ((),mw) h [0,1]
     .refine fg (bK (bK (cX (bn ?_))));exact jz ((),()) h [0,1]
   .refine ab (mq ?_);obtain⟨mc,E,h⟩:=aa h;refine jb (bg rfl E) ?_;refine aq (nl ?_);exact jz ((),mc) h [0,1]
  .refine xa ?_;exact jz ((),()) h [0,1]
 .
  refine sr (cq (nt (aD ?_)));cases h;exact aR () [_] 2 ⟨rfl,trivial⟩ rfl
def mR(k:Nat)(a0:Int)(a1:ae)(a2:Int):Option Bool:=
 (iK k a1 a0 a2).bind λr1=>
 some r1
theorem sN(k:Nat)(a0:Int)(a1:ae)(c z_a1 j:Nat)(a2:Int)(e:Nat)(r:Bool)(h:mR k a0 a1 a2=some r):
 bY (dV Tryz.prog) 84 [.eq (.int .u8 a0),Pt j,Pt e] [.obj c 125 (aU a1 z_a1),.inv z_a1 (bZ k a1),.obj j 72 (Pt c),.obj e 3 (I a2)] (λ_:Unit=>(bM [.eq (.bool r)],[.obj c 125 (aU a1 z_a1),.inv z_a1 (bZ k a1),.obj j 72 (Pt c),.obj e 3 (I a2)])):=by
 unfold mR at h
 replace h:=bu h
 refine bY.of 9 Tryz.func84 rfl Tryz.ntmps84 rfl λS w0=>?_
 refine sr ?_
 refine cq ?_
 refine nt ?_
 refine sr ?_
 refine fr 2 ?_
 refine lo IU ?_
 refine mq ?_
 refine fr 3 ?_
 refine lo cJ ?_
 obtain⟨r1,l,h⟩:=aa h
 have n:=nP k a1 c z_a1 a0 a2 r1 l
 refine fr 3 ?_
 refine fr 3 ?_
 refine aN (Δ:=[_,_]) (F:=_) (λ_ _ _=>ag rfl _) rfl rfl (bb [.tmp 5,.tmp 6,.tmp 7] rfl rfl RD rfl n) ⟨rfl,rfl,rfl,trivial⟩ λ_=>?_
 refine aq ?_
 refine nt ?_
 refine aD ?_
 refine ce (SE.fin (Γ':=[(4,_)]) [0,1,3,2] ⟨rfl,trivial⟩ rfl) ?_
 cases h
 exact aR () [_] 4 ⟨rfl,trivial⟩ rfl
def eL(k:Nat)(a0:(List Int))(a1_0:ae)(a1_1:Int):Nat->Int->Option (Except Int Unit)
 |0,_=>none
 |n+1,y3=>
  if y3 < (a0.length:Int) then((aQ a0 y3).bind λx5=>
  (mR k x5 a1_0 a1_1).bind λr6=>
  if r6=true then(some (.error y3)) else((ck (y3+1)).bind λx7=>
  eL k a0 a1_0 a1_1 n x7)) else(some (.ok ()))
def iG(k:Nat)(a0:(List Int))(a1_0:ae)(a1_1:Int):Option Int:=
 bE (α:=Unit) (eL k a0 a1_0 a1_1 k 0) (some) λ_=>
 some (-1:Int)
theorem nF(k:Nat)(a0:(List Int))(a1_0:ae)(b_a1_0 z_a1_0 c_a1_0:Nat)(a1_1:Int)(c_a1_1:Nat)(r:Int)(h:iG k a0 a1_0 a1_1=some r):
 bY (dV Tryz.prog) 114 [.rep (.slice (.int .u8)) a0,.eq (.func (.func 84) #[] #[(Pv c_a1_0),(Pv c_a1_1)])] [.obj b_a1_0 125 (aU a1_0 z_a1_0),.inv z_a1_0 (bZ k a1_0),.obj c_a1_0 72 (Pt b_a1_0),.obj c_a1_1 3 (I a1_1)] (λ_:Unit=>(bM [I r],[.obj b_a1_0 125 (aU a1_0 z_a1_0),.inv z_a1_0 (bZ k a1_0),.obj c_a1_0 72 (Pt b_a1_0),.obj c_a1_1 3 (I a1_1)])):=by
 unfold iG at h
 replace h:=bu h
 refine bY.of 19 Tryz.func114 rfl Tryz.ntmps114 rfl λS w0=>?_
 refine sr ?_
 refine cq ?_
 refine nt ?_
 refine dq (Z:=Unit) (α:=Unit) (λz2 x1=>[]) (λz2 x1=>[.obj b_a1_0 125 (aU a1_0 z_a1_0),.inv z_a1_0 (bZ k a1_0),.obj c_a1_0 72 (Pt b_a1_0),.obj c_a1_1 3 (I a1_1)]) (λe=>e=r) h (λe h=>Option.some.inj h) (λK hR h=>?_) (λz2 x1 h=>?_)
 .
  refine sr (mq ?_);refine ol zU ?_;refine ff rfl ?_;refine nt (ak (aK (λz4 y3=>[(0,.rep (.slice (.int .u8)) a0),(1,.eq (.func (.func 84) #[] #[(Pv c_a1_0),(Pv c_a1_1)])),(7,I (a0.length:Int)),(8,I y3)]) (λz4 y3=>[.obj c_a1_0 72 (Pt b_a1_0),.obj b_a1_0 125 (aU a1_0 z_a1_0),.obj c_a1_1 3 (I a1_1),.inv z_a1_0 (bZ k a1_0)]) (eL k a0 a1_0 a1_1) k () 0 (λ_=>rfl) h (SE.fin [2,0,3,1] ⟨rfl,rfl,rfl,rfl,trivial⟩ rfl) (λn z4 y3 h=>?_)));unfold eL at h;refine sr (jb (ba rfl) ?_);refine nt (am (ci h (λh=>?_) (λh=>?_)))
  .refine sk (am (ak (sr (mq ?_))));refine aq (nt (sr ?_));iterate 3 refine mq ?_
   obtain⟨x5,j,h⟩:=aa h;refine jb (aW (t:=(.int .u8)) rfl zU pn j) ?_;refine ja (av (t:=(.int .u8)) rfl pn rfl) ?_;obtain⟨r6,l,h⟩:=aa h;refine fr 2 ?_;refine fr 1 ?_;refine fr 3 ?_;refine fr 3 ?_;refine aN (Δ:=[_,_,_,_]) (F:=_) (λ_ _ _=>ag rfl _) rfl rfl (qm (fs:=[]) (cs:=[(Pv c_a1_0),(Pv c_a1_1)]) (ags:=[.eq (.int .u8 x5)]) [.tmp 15] rfl rfl RE rfl (sN k x5 a1_0 b_a1_0 z_a1_0 c_a1_0 a1_1 c_a1_1 r6 l)) ⟨rfl,rfl,trivial⟩ λ_=>?_;refine nt (cv h (λh=>?_) (λh=>?_))
   .refine sr (mq ?_);refine aq (nt (aD (br (bD (bG ?_)))));obtain rfl:=hR _ h;exact aR () [_] 4 ⟨rfl,trivial⟩ rfl
   .refine bp (aZ (tn (ab ?_)));obtain⟨x7,c,h⟩:=aa h;refine jb (bg rfl c) ?_;refine mq (nl ?_);exact jz ((),x7) h [2,0,3,1]
  .refine xa ?_;exact jz ((),()) h [1,3,0,2]
 .
  refine sr (cq (nt (aD ?_)));cases h;exact aR () [_] 4 ⟨rfl,trivial⟩ rfl
def eM(k:Nat)(a0:(List Int))(a1_0:ae)(a1_1:Int):Option Bool:=
 (iG k a0 a1_0 a1_1).bind λr1=>
 some (decide (0≤r1))
theorem l9(k:Nat)(a0:(List Int))(a1_0:ae)(b_a1_0 z_a1_0 c_a1_0:Nat)(a1_1:Int)(c_a1_1:Nat)(r:Bool)(h:eM k a0 a1_0 a1_1=some r):
 bY (dV Tryz.prog) 86 [.rep (.slice (.int .u8)) a0,.eq (.func (.func 84) #[] #[(Pv c_a1_0),(Pv c_a1_1)])] [.obj b_a1_0 125 (aU a1_0 z_a1_0),.inv z_a1_0 (bZ k a1_0),.obj c_a1_0 72 (Pt b_a1_0),.obj c_a1_1 3 (I a1_1)] (λ_:Unit=>(bM [.eq (.bool r)],[.obj b_a1_0 125 (aU a1_0 z_a1_0),.inv z_a1_0 (bZ k a1_0),.obj c_a1_0 72 (Pt b_a1_0),.obj c_a1_1 3 (I a1_1)])):=by
 unfold eM at h
 replace h:=bu h
 refine bY.of 9 Tryz.func86 rfl Tryz.ntmps86 rfl λS w0=>?_
 refine sr ?_
 refine cq ?_
 refine nt ?_
 refine sr ?_
 iterate 2 refine mq ?_
 obtain⟨r1,c,h⟩:=aa h
 have e:=nF k a0 a1_0 b_a1_0 z_a1_0 c_a1_0 a1_1 c_a1_1 r1 c
 refine fr 3 ?_
 refine fr 3 ?_
 refine fr 3 ?_
 refine fr 3 ?_
 refine aN (Δ:=[_,_,_,_]) (F:=_) (λ_ _ _=>ag rfl _) rfl rfl (bb [.tmp 5,.tmp 6] rfl rfl P6 rfl e) ⟨rfl,rfl,trivial⟩ λ_=>?_
 refine jb (gq rfl) ?_
 refine aq ?_
 refine nt ?_
 refine aD ?_
 cases h
 exact aR () [_] 4 ⟨rfl,trivial⟩ rfl
def pI(k:Nat)(a0:ae)(a1:Int):Option ((List Int)×Int):=
 (mi k a0 ([]:(List Int)) [a1] ([]:(List Int))).bind λr3=>
 f8 r3.1 (if¬(r3.2.2=0) then(some (([]:(List Int)),r3.2.2)) else(none)) (λq4=>if¬(r3.2.2=0) then(some (([]:(List Int)),r3.2.2)) else((jB k (qe (λ(c:(List Int)) (e:Int)=>
  (mP k a0 a1 e).bind λr=>
  f8 r (none) (λs=>(eM k r3.2.1 s a1).bind λn=>
  if¬(n=true) then((cM (bW (length c+length [e]))).bind λ_=>
  some (c++[e],true)) else(some (c,true))))) a0.1 (([]:(List Int)),false)).bind λh=>
 if h.2=true then(none) else((pE k h.1).bind λl=>
 (fO k l).bind λj=>
 some (j,0))))
theorem u4(k:Nat)(a0:ae)(a1:Int)(r:(List Int)×Int)(h:pI k a0 a1=some r):
 bY (dV Tryz.prog) 50 [.rep ay a0,I a1] [] (λ_:Unit=>(bM [.rep Tl r.1,I r.2],[])):=by
 unfold pI at h
 replace h:=bu h
 refine uD 44 Tryz.func50 rfl Tryz.ntmps50 rfl λS w0=>?_
 refine sr ?_
 refine bx λb1=>?_
 refine bx λb2=>?_
 refine cq ?_
 refine cq ?_
 refine nt ?_
 refine sr ?_
 refine fr 1 ?_
 refine lo jP ?_
 refine fr 1 ?_
 refine lo cJ ?_
 refine ja (bh (t:=Ti) [(.tmp 15,_)] [a1] rfl rfl dD (.cons rfl .int .nil) rfl rfl) ?_
 obtain⟨r3,TM,h⟩:=aa h
 have y:=mO k a0 ([]:(List Int)) [a1] ([]:(List Int)) r3 TM
 rcases hr:r3.1 with _ |q4
 .
  rw [hr] at h y;replace h:=vb h;refine aN (Δ:=[]) (F:=_) (λ_ _ _=>ag rfl _) rfl rfl (bR (N:=[(.tmp 14,.rep ay a0),(.const (.slice none 0 0),.eq (.slice none 0 0)),(.tmp 16,.rep Tl [a1]),(.const (.slice none 0 0),.eq (.slice none 0 0))]) (bb [.tmp 14,.const (.slice none 0 0),.tmp 16,.const (.slice none 0 0)] rfl rfl D7 rfl y) λ_ _ _ hn=>⟨hn.1,(aH (t:=Tl) (x:=([]:(List Int))) .nil rfl rfl hn.2.1),hn.2.2.1,(aH (t:=Tl) (x:=([]:(List Int))) .nil rfl rfl hn.2.2.2.1),trivial⟩) ⟨rfl,rfl,rfl,rfl,trivial⟩ λ_=>?_;refine mq ?_;refine xr ?_;refine xr ?_;refine xr ?_;refine bi rfl rfl rfl (bJ rfl IB KN) trivial λb5=>?_;refine aq ?_;refine aV rfl rfl (aS rfl wx rfl rfl rfl) ⟨rfl,rfl,trivial⟩ ?_;refine aq (nt (am (sr ?_)));refine mq ?_;refine jb (cG rfl) ?_;refine nt (cn h (λh=>?_) (λh=>?_))
  .refine sr (mq ?_);refine cq ?_;refine aq (nt (rx ?_));refine ce (eI (t:=Tl) (x:=([]:(List Int))) 4 rfl .nil rfl rfl) ?_;refine zI ?_;cases h;exact rb
  .cases h
 .
  rw [hr] at h y;replace h:=va h;refine aN (Δ:=[]) (F:=_) (λ_ _ _=>ag rfl _) rfl rfl (bR (N:=[(.tmp 14,.rep ay a0),(.const (.slice none 0 0),.eq (.slice none 0 0)),(.tmp 16,.rep Tl [a1]),(.const (.slice none 0 0),.eq (.slice none 0 0))]) (bb [.tmp 14,.const (.slice none 0 0),.tmp 16,.const (.slice none 0 0)] rfl rfl D7 rfl y) λ_ _ _ hn=>⟨hn.1,(aH (t:=Tl) (x:=([]:(List Int))) .nil rfl rfl hn.2.1),hn.2.2.1,(aH (t:=Tl) (x:=([]:(List Int))) .nil rfl rfl hn.2.2.2.1),trivial⟩) ⟨rfl,rfl,rfl,rfl,trivial⟩ λz6=>?_;refine mq ?_;refine xr ?_;refine xr ?_;refine xr ?_;refine bi rfl rfl rfl (bJ rfl IB KN) trivial λb7=>?_;refine aq ?_;refine aV rfl rfl (aS rfl wx rfl rfl rfl) ⟨rfl,rfl,trivial⟩ ?_;refine aq (nt (am (sr ?_)));refine mq ?_;refine jb (cG rfl) ?_;refine nt (cn h (λh=>?_) (λh=>?_))
  .refine sr (mq ?_);refine cq ?_;refine aq (nt (rx ?_));refine ce (eI (t:=Tl) (x:=([]:(List Int))) 4 rfl .nil rfl rfl) ?_;refine zI ?_;cases h;exact rb
  .refine sk (sr (bi rfl rfl rfl (bJ rfl IB KN) trivial λb8=>?_));refine nt (am (sr (fl gC ?_)));refine fr 5 ?_;refine lo cJ ?_;refine bi rfl rfl rfl (aA [.tmp 25] rfl rfl PS rfl (qz a0.1)) ⟨rfl,trivial⟩ λb9=>?_;refine nt (ak (jN (SE.nil 73 (.int .u8)) ?_));refine dS 7 rfl ?_;refine dS 7 rfl ?_;refine dS 7 rfl ?_;refine dS 7 rfl ?_;refine dS 4 rfl ?_;refine dS 7 rfl ?_;refine dS 7 rfl ?_;refine dS 7 rfl ?_;obtain⟨u,qt,h⟩:=aa h;refine qO (Δ:=[.obj b9 3 (I a0.1),.obj b1 26 (.rep ay a0),.obj b8 76 (.eq (.slice none 0 0)),.sl (.slice none 0 0) 73 (.int .u8) ([]:(List Int)),.obj b7 76 (.rep (.slice (.int .u8)) r3.2.1),.obj z6.1 125 (aU q4 z6.2),.inv z6.2 (bZ k q4),.obj b2 3 (I a1)]) (F:=[]) (X:=Value) (J:=λ_=>Oy u.2) (E:=λc=>[.obj b9 3 (I a0.1),.obj b1 26 (.rep ay a0),.obj b8 76 (.eq c),.sl c 73 (.int .u8) u.1,.obj b7 76 (.rep (.slice (.int .u8)) r3.2.1),.obj z6.1 125 (aU q4 z6.2),.inv z6.2 (bZ k q4),.obj b2 3 (I a1)]) (r0:=λ_=>.tup .any) rfl rfl LN (λrec hp ha hb hs hpe hN hv l=>?_) (λdl c=>ti (λhj=>?_) (λhj=>?_))
   .rcases rec with⟨st0,pe0,fn0,tm0,ps0,as0,bd0,df0⟩;dsimp only at hp ha hb hs hpe hN hv;subst hp hs hpe;have vN:zD tm0 [(2,Pt b1),(3,Pt b2),(7,Pt b7),(9,Pt b8)]:=⟨congrArg A.eq (hv 2 _ rfl).symm,congrArg A.eq (hv 3 _ rfl).symm,congrArg A.eq (hv 7 _ rfl).symm,congrArg A.eq (hv 9 _ rfl).symm,trivial⟩;refine bY.pick (M:=(dV Tryz.prog)) [1,0,2,3,4,5,6,7,8] [1,0,2,3,4,5,6,7,8] (nR (λ(c:Value) (q:(List Int)×Bool)=>[.raw l (.loop (jT ⟨.ready,none,fn0,tm0, #[27],as0,bd0,df0⟩ (Oy q.2))),.obj b1 26 (.rep ay a0),.obj b8 76 (.eq c),.sl c 73 (.int .u8) q.1,.obj b7 76 (.rep (.slice (.int .u8)) r3.2.1),.obj z6.1 125 (aU q4 z6.2),.inv z6.2 (bZ k q4),.obj b2 3 (I a1)]) l (qe (λ(n:(List Int)) (j:Int)=>
    (mP k a0 a1 j).bind λs=>
    f8 s (none) (λO=>(eM k r3.2.1 O a1).bind λD=>
    if¬(D=true) then((cM (bW (length n+length [j]))).bind λ_=>
    some (n++[j],true)) else(some (n,true))))) k a0.1 b9 (λc q p r' h=>?_) (.slice none 0 0) (([]:(List Int)),false) u qt) rfl (λ_=>rfl) (λ_=>rfl)
    obtain⟨rq,hq,h2,rfl⟩:=tj h;obtain⟨n,b5⟩:=q;obtain rfl:b5=false:=hq;replace h:=bu h2;obtain⟨j,hpv⟩:∃x,x=p:=⟨_,rfl⟩;subst hpv;refine YT.pick (R':=(λc:Value=>(.eq (.bool rq.2),[.raw l (.loop (jT ⟨.ready,none,fn0,tm0, #[27],as0,bd0,df0⟩ (Oy (!rq.2)))),.obj b1 26 (.rep ay a0),.obj b8 76 (.eq c),.sl c 73 (.int .u8) rq.1,.obj b7 76 (.rep (.slice (.int .u8)) r3.2.1),.obj z6.1 125 (aU q4 z6.2),.inv z6.2 (bZ k q4),.obj b2 3 (I a1)]))) [0,1,2,3,4,5,6,7] [0,1,2,3,4,5,6,7] (HS ha hb (N:=44) (Γ:=[(2,Pt b1),(3,Pt b2),(7,Pt b7),(9,Pt b8)]) rfl hN (by decide) vN (λS w=>?_)) rfl (λ_=>rfl) (λ_=>rfl);refine ab (aq (nl ?_));refine zK rfl rfl ?_;refine ak (sr (fr 1 ?_));refine lo jP ?_;refine fr 7 ?_;refine lo cJ ?_;refine mq ?_;obtain⟨s,mw,h⟩:=aa h;have e:=uY k a0 a1 j s mw;rcases hr:s with _ |O
    .rw [hr] at h e;replace h:=vb h;refine aN (Δ:=[]) (F:=_) (λ_ _ _=>ag rfl _) rfl rfl (aA [.tmp 28,.tmp 29,.tmp 30] rfl rfl PQ rfl e) ⟨rfl,rfl,rfl,trivial⟩ λ_=>?_;cases h
    .rw [hr] at h e;replace h:=va h;refine aN (Δ:=[]) (F:=_) (λ_ _ _=>ag rfl _) rfl rfl (aA [.tmp 28,.tmp 29,.tmp 30] rfl rfl PQ rfl e) ⟨rfl,rfl,rfl,trivial⟩ λQ=>?_;refine bi rfl rfl rfl (bJ rfl QU Sr) trivial λzz=>?_;refine aV rfl rfl (aS rfl IU rfl rfl rfl) ⟨rfl,rfl,trivial⟩ ?_;refine nt (sr (jb (rl [] [.tmp 11,.tmp 3] [] [(Pv zz),(Pv b2)] rfl rfl rfl) ?_));refine aq (nt (sr ?_));refine fr 8 ?_;refine lo wx ?_;refine mq ?_;obtain⟨D,mc,h⟩:=aa h;refine fr 4 ?_;refine fr 2 ?_;refine fr 4 ?_;refine fr 4 ?_;refine aN (Δ:=[_,_,_,_]) (F:=_) (λ_ _ _=>ag rfl _) rfl rfl (bb [.tmp 33,.tmp 34] rfl rfl RB rfl (l9 k r3.2.1 O Q.1 Q.2 zz a1 b2 D mc)) ⟨rfl,rfl,trivial⟩ λ_=>?_;refine ja (iY rfl) ?_;refine nt (cw h (λh=>?_) (λh=>?_))
     .refine ab (fr 7 ?_);refine lo wx ?_;refine mq ?_;refine ja (bh (t:=(.int .u8)) [(.tmp 38,_)] [j] rfl rfl I6 (.cons rfl .int .nil) rfl rfl) ?_;obtain⟨TN,Y,h⟩:=aa h;refine fr 8 ?_;refine eC rfl rfl rfl (cL rfl rfl I6 (ap Y)) ⟨rfl,rfl,trivial⟩ λTK=>?_;refine uy λo22=>?_;refine fr 1 ?_;refine aV rfl rfl (aS rfl wx o22 rfl rfl) ⟨rfl,rfl,trivial⟩ ?_;refine aI (aZ (bz 5 rfl ?_));refine bz 10 rfl ?_;refine bz 10 rfl ?_;refine bz 8 rfl ?_;refine bz 5 rfl ?_;refine bz 5 rfl ?_;refine bz 9 rfl ?_;refine bz 10 rfl ?_;cases h;exact oO TK 7 rfl
     .refine bp (aZ (bz 3 rfl ?_));refine bz 10 rfl ?_;refine bz 10 rfl ?_;refine bz 6 rfl ?_;refine bz 10 rfl ?_;refine bz 10 rfl ?_;refine bz 9 rfl ?_;refine bz 10 rfl ?_;cases h;exact oO c 7 rfl
   .replace h:=aC (o5 hj) h;refine aZ (tn (sr (fr 3 ?_)));refine lo wx ?_;obtain⟨U,gw,h⟩:=aa h;refine fr 4 ?_;refine kb (lq (N:=[(.tmp 41,.eq c),(.func 88,.eq (.func (.func 88) #[] #[]))]) (aA [.tmp 41,.func 88] rfl rfl Rz rfl (uZ k u.1 U gw)) (λ_ _ _ hv hn=>⟨(lend hn.1 hv),hn.2.1,trivial⟩) (λ_=>⟨rfl,nV⟩)) ?_;obtain⟨TL,Z,h⟩:=aa h;refine ja (aA [.tmp 42] rfl rfl NL rfl (jX k U TL Z)) ?_;refine aq ?_;refine cq (nt (aD ?_));refine bz 2 rfl ?_;refine Da ?_;cases h;exact rb
   .replace h:=be (o0 hj) h;cases h
def qB(k:Nat):Option Bool:=
 (ix k ([]:(List bX))).bind λr1=>
 (i9 k r1 [0]).bind λr2=>
 (ix k ([]:(List bX))).bind λr3=>
 (iq k r3).bind λr4=>
 (ix k ([]:(List bX))).bind λr5=>
 (rG k r5 2).bind λr6=>
 (ix k ([]:(List bX))).bind λr8=>
 (rH k r8 [0] 3).bind λr9=>
 (ix k ([]:(List bX))).bind λu=>
 (tV k u 2).bind λc=>
 (ix k ([]:(List bX))).bind λs=>
 (pI k s 2).bind λe=>
 ((if r2.2=0 then(if r4.2=0 then(if r6.2=0 then(if r9.2=0 then(if c.2.2=0 then(if e.2=0 then(if r6.1=(1,3) then(if c.1=2 then(if c.2.1=2 then((jr k r2.1 [[1,(-1:Int),(-1:Int),(-1:Int)],[2,0,(-1:Int),(-1:Int)],[3,1,(-1:Int),(-1:Int)],[3,2,0,(-1:Int)],[(-1:Int),3,1,0]]).bind λr=>
 if r=true then((jr k r4.1 [[0],[0,1],[1]]).bind λn=>
 if n=true then((eX k r9.1 [0,1,3]).bind λl=>
 if l=true then((eX k e.1 [1,2]).bind λj=>
 some j) else(some false)) else(some false)) else(some false)) else(some false)) else(some false)) else(some false)) else(some false)) else(some false)) else(some false)) else(some false)) else(some false)) else(some false)):Option (Bool)).bind λh=>
 some h
theorem yU(k:Nat)(r:Bool)(h:qB k=some r):
 bY (dV Tryz.prog) 16 [] [] (λ_:Unit=>(bM [.eq (.bool r)],[])):=by
 unfold qB at h
 replace h:=bu h
 refine bY.of 110 Tryz.func16 rfl Tryz.ntmps16 rfl λS w0=>?_
 refine sr ?_
 refine cq ?_
 refine nt ?_
 refine sr ?_
 obtain⟨r1,TR,h⟩:=aa h
 have T8:=gK k ([]:(List bX)) r1 TR
 refine ja (bR (N:=[(.const (.slice none 0 0),.eq (.slice none 0 0))]) (aA [.const (.slice none 0 0)] rfl rfl D6 rfl T8) λ_ _ _ hn=>⟨(aH (t:=(.slice bL)) (x:=([]:(List bX))) .nil rfl rfl hn.1),trivial⟩) ?_
 refine ja (bh (t:=Ti) [(.const (.int .i64 (0)),_)] [0] rfl rfl dD (.cons rfl .int .nil) rfl rfl) ?_
 obtain⟨r2,TP,h⟩:=aa h
 have TZ:=o7 k r1 [0] r2 TP
 refine jb (bb [.tmp 15,.tmp 16] rfl rfl P3 rfl TZ) ?_
 refine mq ?_
 refine xr ?_
 refine xr ?_
 refine aq ?_
 refine aq ?_
 refine nt ?_
 refine sr ?_
 obtain⟨r3,TO,h⟩:=aa h
 have TY:=gK k ([]:(List bX)) r3 TO
 refine ja (bR (N:=[(.const (.slice none 0 0),.eq (.slice none 0 0))]) (aA [.const (.slice none 0 0)] rfl rfl D6 rfl TY) λ_ _ _ hn=>⟨(aH (t:=(.slice bL)) (x:=([]:(List bX))) .nil rfl rfl hn.1),trivial⟩) ?_
 obtain⟨r4,TN,h⟩:=aa h
 have TX:=o8 k r3 r4 TN
 refine ja (bb [.tmp 21] rfl rfl P7 rfl TX) ?_
 refine mq ?_
 refine xr ?_
 refine xr ?_
 refine aq ?_
 refine aq ?_
 refine nt ?_
 refine sr ?_
 obtain⟨r5,TM,h⟩:=aa h
 have TW:=gK k ([]:(List bX)) r5 TM
 refine ja (bR (N:=[(.const (.slice none 0 0),.eq (.slice none 0 0))]) (aA [.const (.slice none 0 0)] rfl rfl D6 rfl TW) λ_ _ _ hn=>⟨(aH (t:=(.slice bL)) (x:=([]:(List bX))) .nil rfl rfl hn.1),trivial⟩) ?_
 obtain⟨r6,TL,h⟩:=aa h
 have TV:=wS k r5 2 r6 TL
 refine jb (bb [.tmp 26,.const (.int .i64 (2))] rfl rfl R9 rfl TV) ?_
 refine mq ?_
 refine xr ?_
 refine xr ?_
 refine bi rfl rfl rfl (bJ rfl zV Qg) trivial λb7=>?_
 refine aV rfl rfl (aS rfl uP rfl rfl rfl) ⟨rfl,rfl,trivial⟩ ?_
 refine aq ?_
 refine nt ?_
 refine sr ?_
 obtain⟨r8,TK,h⟩:=aa h
 have TU:=gK k ([]:(List bX)) r8 TK
 refine ja (bR (N:=[(.const (.slice none 0 0),.eq (.slice none 0 0))]) (aA [.const (.slice none 0 0)] rfl rfl D6 rfl TU) λ_ _ _ hn=>⟨(aH (t:=(.slice bL)) (x:=([]:(List bX))) .nil rfl rfl hn.1),trivial⟩) ?_
 refine ja (bh (t:=Ti) [(.const (.int .i64 (0)),_)] [0] rfl rfl dD (.cons rfl .int .nil) rfl rfl) ?_
 obtain⟨r9,zz,h⟩:=aa h
 have TS:=wU k r8 [0] 3 r9 zz
 refine jc (bb [.tmp 31,.tmp 32,.const (.int .i64 (3))] rfl rfl RS rfl TS) ?_
 refine mq ?_
 refine xr ?_
 refine xr ?_
 refine aq ?_
 refine aq ?_
 refine nt ?_
 refine sr ?_
 obtain⟨u,O,h⟩:=aa h
 have Y:=gK k ([]:(List bX)) u O
 refine ja (bR (N:=[(.const (.slice none 0 0),.eq (.slice none 0 0))]) (aA [.const (.slice none 0 0)] rfl rfl D6 rfl Y) λ_ _ _ hn=>⟨(aH (t:=(.slice bL)) (x:=([]:(List bX))) .nil rfl rfl hn.1),trivial⟩) ?_
 obtain⟨qt,M,h⟩:=aa h
 have X:=yI k u 2 qt M
 refine jb (bb [.tmp 37,.const (.int .i64 (2))] rfl rfl RR rfl X) ?_
 refine mq ?_
 refine xr ?_
 refine xr ?_
 refine xr ?_
 refine aq ?_
 refine aq ?_
 refine aq ?_
 refine nt ?_
 refine sr ?_
 obtain⟨n,J,h⟩:=aa h
 have U:=gK k ([]:(List bX)) n J
 refine ja (bR (N:=[(.const (.slice none 0 0),.eq (.slice none 0 0))]) (aA [.const (.slice none 0 0)] rfl rfl D6 rfl U) λ_ _ _ hn=>⟨(aH (t:=(.slice bL)) (x:=([]:(List bX))) .nil rfl rfl hn.1),trivial⟩) ?_
 obtain⟨l,I,h⟩:=aa h
 have Q:=u4 k n 2 l I
 refine jb (bb [.tmp 43,.const (.int .i64 (2))] rfl rfl RQ rfl Q) ?_
 refine mq ?_
 refine xr ?_
 refine xr ?_
 refine aq ?_
 refine aq ?_
 refine nt ?_
 refine aL (Z:=Unit) (α:=Bool) (λe c=>[(0,.eq (.bool c))]) (λe c=>[]) h (λK h=>?_) (λe c h=>?_)
 .
  refine ab (mq ?_);refine jb (dP rfl) ?_;refine mq ?_;refine an (s:=49) rfl (λhb=>?_) (λhb=>?_)
  .replace h:=be (gV hb) h;refine gm ?_;refine gb (dP rfl) ?_;refine pt ?_;refine mq ?_;refine an (s:=53) rfl (λhb=>?_) (λhb=>?_)
   .replace h:=be (gV hb) h;refine gm ?_;refine gb (dP rfl) ?_;refine pt ?_;refine mq ?_;refine an (s:=57) rfl (λhb=>?_) (λhb=>?_)
    .replace h:=be (gV hb) h;refine gm ?_;refine gb (dP rfl) ?_;refine pt ?_;refine mq ?_;refine an (s:=61) rfl (λhb=>?_) (λhb=>?_)
     .replace h:=be (gV hb) h;refine gm ?_;refine gb (dP rfl) ?_;refine pt ?_;refine mq ?_;refine an (s:=65) rfl (λhb=>?_) (λhb=>?_)
      .replace h:=be (gV hb) h;refine gm ?_;refine gb (dP rfl) ?_;refine pt ?_;refine mq ?_;refine an (s:=69) rfl (λhb=>?_) (λhb=>?_)
       .replace h:=be (gV hb) h;refine lW rfl rfl rfl rfl rfl rfl (aE rfl uP (vE) rfl) ⟨rfl,trivial⟩ ?_;refine gb (eu [(0,.const (.int .i64 (1)),_),(1,.const (.int .i64 (3)),_)] rfl F3 zV zy (j7 ⟨rfl,rfl,trivial⟩) rfl) ?_;refine eZ (eI (t:=bP) (x:=(1,3)) 71 rfl (.agg (.pair .int .int)) trivial rfl) ?_;refine gb (Nj rfl Rw rfl) ?_;refine pt ?_;refine mq ?_;refine an (s:=74) rfl (λhb=>?_) (λhb=>?_)
        .replace h:=be (gV hb) h;refine gm ?_;refine gb (dP rfl) ?_;refine pt ?_;refine mq ?_;refine an (s:=78) rfl (λhb=>?_) (λhb=>?_)
         .replace h:=be (gV hb) h;refine gm ?_;refine gb (dP rfl) ?_;refine pt ?_;refine mq ?_;refine an (s:=82) rfl (λhb=>?_) (λhb=>?_)
          .replace h:=be (gV hb) h;refine gm ?_;refine lr rfl rfl rfl rfl rfl rfl (bh (t:=Ti) [(.const (.int .i64 (1)),_),(.const (.int .i64 (-1)),_),(.const (.int .i64 (-1)),_),(.const (.int .i64 (-1)),_)] [1,(-1:Int),(-1:Int),(-1:Int)] rfl rfl dD (.cons rfl .int (.cons rfl .int (.cons rfl .int (.cons rfl .int .nil)))) rfl rfl) ⟨rfl,rfl,rfl,rfl,trivial⟩ ?_;refine lr rfl rfl rfl rfl rfl rfl (bh (t:=Ti) [(.const (.int .i64 (2)),_),(.const (.int .i64 (0)),_),(.const (.int .i64 (-1)),_),(.const (.int .i64 (-1)),_)] [2,0,(-1:Int),(-1:Int)] rfl rfl dD (.cons rfl .int (.cons rfl .int (.cons rfl .int (.cons rfl .int .nil)))) rfl rfl) ⟨rfl,rfl,rfl,rfl,trivial⟩ ?_;refine lr rfl rfl rfl rfl rfl rfl (bh (t:=Ti) [(.const (.int .i64 (3)),_),(.const (.int .i64 (1)),_),(.const (.int .i64 (-1)),_),(.const (.int .i64 (-1)),_)] [3,1,(-1:Int),(-1:Int)] rfl rfl dD (.cons rfl .int (.cons rfl .int (.cons rfl .int (.cons rfl .int .nil)))) rfl rfl) ⟨rfl,rfl,rfl,rfl,trivial⟩ ?_;refine lr rfl rfl rfl rfl rfl rfl (bh (t:=Ti) [(.const (.int .i64 (3)),_),(.const (.int .i64 (2)),_),(.const (.int .i64 (0)),_),(.const (.int .i64 (-1)),_)] [3,2,0,(-1:Int)] rfl rfl dD (.cons rfl .int (.cons rfl .int (.cons rfl .int (.cons rfl .int .nil)))) rfl rfl) ⟨rfl,rfl,rfl,rfl,trivial⟩ ?_;refine lr rfl rfl rfl rfl rfl rfl (bh (t:=Ti) [(.const (.int .i64 (-1)),_),(.const (.int .i64 (3)),_),(.const (.int .i64 (1)),_),(.const (.int .i64 (0)),_)] [(-1:Int),3,1,0] rfl rfl dD (.cons rfl .int (.cons rfl .int (.cons rfl .int (.cons rfl .int .nil)))) rfl rfl) ⟨rfl,rfl,rfl,rfl,trivial⟩ ?_;refine lr rfl rfl rfl rfl rfl rfl (bh (t:=Tl) [(.tmp 84,_),(.tmp 85,_),(.tmp 86,_),(.tmp 87,_),(.tmp 88,_)] [[1,(-1:Int),(-1:Int),(-1:Int)],[2,0,(-1:Int),(-1:Int)],[3,1,(-1:Int),(-1:Int)],[3,2,0,(-1:Int)],[(-1:Int),3,1,0]] rfl rfl oR (.cons rfl .rep (.cons rfl .rep (.cons rfl .rep (.cons rfl .rep (.cons rfl .rep .nil))))) rfl rfl) ⟨rfl,rfl,rfl,rfl,rfl,trivial⟩ ?_;obtain⟨mw,F,h⟩:=aa h;refine gb (aA [.tmp 83,.tmp 89] rfl rfl PT rfl (mr k r2.1 [[1,(-1:Int),(-1:Int),(-1:Int)],[2,0,(-1:Int),(-1:Int)],[3,1,(-1:Int),(-1:Int)],[3,2,0,(-1:Int)],[(-1:Int),3,1,0]] mw F)) ?_;refine pt ?_;refine mq ?_;refine an (s:=92) rfl (λhb=>?_) (λhb=>?_)
           .replace h:=be (o0 hb) h;refine gm ?_;refine ga (bh (t:=Ti) [(.const (.int .i64 (0)),_)] [0] rfl rfl dD (.cons rfl .int .nil) rfl rfl) ?_;refine gb (bh (t:=Ti) [(.const (.int .i64 (0)),_),(.const (.int .i64 (1)),_)] [0,1] rfl rfl dD (.cons rfl .int (.cons rfl .int .nil)) rfl rfl) ?_;refine ga (bh (t:=Ti) [(.const (.int .i64 (1)),_)] [1] rfl rfl dD (.cons rfl .int .nil) rfl rfl) ?_;refine gc (bh (t:=Tl) [(.tmp 94,_),(.tmp 95,_),(.tmp 96,_)] [[0],[0,1],[1]] rfl rfl oR (.cons rfl .rep (.cons rfl .rep (.cons rfl .rep .nil))) rfl rfl) ?_;obtain⟨mc,E,h⟩:=aa h;refine gb (aA [.tmp 93,.tmp 97] rfl rfl PT rfl (mr k r4.1 [[0],[0,1],[1]] mc E)) ?_;refine pt ?_;refine mq ?_;refine an (s:=100) rfl (λhb=>?_) (λhb=>?_)
            .replace h:=be (o0 hb) h;refine gm ?_;refine gc (bh (t:=Ti) [(.const (.int .i64 (0)),_),(.const (.int .i64 (1)),_),(.const (.int .i64 (3)),_)] [0,1,3] rfl rfl dD (.cons rfl .int (.cons rfl .int (.cons rfl .int .nil))) rfl rfl) ?_;obtain⟨gw,D,h⟩:=aa h;refine gb (aA [.tmp 101,.tmp 102] rfl rfl Kq rfl (im k r9.1 [0,1,3] gw D)) ?_;refine pt ?_;refine mq ?_;refine an (s:=105) rfl (λhb=>?_) (λhb=>?_)
             .replace h:=be (o0 hb) h;refine gm ?_;refine gb (bh (t:=Ti) [(.const (.int .i64 (1)),_),(.const (.int .i64 (2)),_)] [1,2] rfl rfl dD (.cons rfl .int (.cons rfl .int .nil)) rfl rfl) ?_;obtain⟨j,y,h⟩:=aa h;refine gb (aA [.tmp 106,.tmp 107] rfl rfl Kq rfl (im k l.1 [1,2] j y)) ?_;refine pt ?_;refine aq (nl ?_);exact jz ((),j) h []
             .replace h:=aC (o5 hb) h;iterate 3 refine gn ?_
              refine pf ?_;refine aq (nl ?_);exact jz ((),false) h []
            .replace h:=aC (o5 hb) h;iterate 3 refine gn ?_
             refine pf ?_;refine mq ?_;iterate 3 refine gn ?_
             refine pf ?_;refine aq (nl ?_);exact jz ((),false) h []
           .replace h:=aC (o5 hb) h;iterate 6 refine gn ?_
            refine pf ?_;refine mq ?_;iterate 3 refine gn ?_
            refine pf ?_;refine mq ?_;iterate 3 refine gn ?_
            refine pf ?_;refine aq (nl ?_);exact jz ((),false) h []
          .replace h:=aC (gW hb) h;iterate 8 refine gn ?_
           refine pf ?_;refine mq ?_;iterate 6 refine gn ?_
           refine pf ?_;refine mq ?_;iterate 3 refine gn ?_
           refine pf ?_;refine mq ?_;iterate 3 refine gn ?_
           refine pf ?_;refine aq (nl ?_);exact jz ((),false) h []
         .replace h:=aC (gW hb) h;iterate 2 refine gn ?_
          refine pf ?_;refine mq ?_;iterate 8 refine gn ?_
          refine pf ?_;refine mq ?_;iterate 6 refine gn ?_
          refine pf ?_;refine mq ?_;iterate 3 refine gn ?_
          refine pf ?_;refine mq ?_;iterate 3 refine gn ?_
          refine pf ?_;refine aq (nl ?_);exact jz ((),false) h []
        .replace h:=aC (gW hb) h;iterate 2 refine gn ?_
         refine pf ?_;refine mq ?_;iterate 2 refine gn ?_
         refine pf ?_;refine mq ?_;iterate 8 refine gn ?_
         refine pf ?_;refine mq ?_;iterate 6 refine gn ?_
         refine pf ?_;refine mq ?_;iterate 3 refine gn ?_
         refine pf ?_;refine mq ?_;iterate 3 refine gn ?_
         refine pf ?_;refine aq (nl ?_);exact jz ((),false) h []
       .replace h:=aC (gW hb) h;iterate 3 refine gn ?_
        refine pf ?_;refine mq ?_;iterate 2 refine gn ?_
        refine pf ?_;refine mq ?_;iterate 2 refine gn ?_
        refine pf ?_;refine mq ?_;iterate 8 refine gn ?_
        refine pf ?_;refine mq ?_;iterate 6 refine gn ?_
        refine pf ?_;refine mq ?_;iterate 3 refine gn ?_
        refine pf ?_;refine mq ?_;iterate 3 refine gn ?_
        refine pf ?_;refine aq (nl ?_);exact jz ((),false) h []
      .replace h:=aC (gW hb) h;iterate 2 refine gn ?_
       refine pf ?_;refine mq ?_;iterate 3 refine gn ?_
       refine pf ?_;refine mq ?_;iterate 2 refine gn ?_
       refine pf ?_;refine mq ?_;iterate 2 refine gn ?_
       refine pf ?_;refine mq ?_;iterate 8 refine gn ?_
       refine pf ?_;refine mq ?_;iterate 6 refine gn ?_
       refine pf ?_;refine mq ?_;iterate 3 refine gn ?_
       refine pf ?_;refine mq ?_;iterate 3 refine gn ?_
       refine pf ?_;refine aq (nl ?_);exact jz ((),false) h []
     .replace h:=aC (gW hb) h;iterate 2 refine gn ?_
      refine pf ?_;refine mq ?_;iterate 2 refine gn ?_
      refine pf ?_;refine mq ?_;iterate 3 refine gn ?_
      refine pf ?_;refine mq ?_;iterate 2 refine gn ?_
      refine pf ?_;refine mq ?_;iterate 2 refine gn ?_
      refine pf ?_;refine mq ?_;iterate 8 refine gn ?_
      refine pf ?_;refine mq ?_;iterate 6 refine gn ?_
      refine pf ?_;refine mq ?_;iterate 3 refine gn ?_
      refine pf ?_;refine mq ?_;iterate 3 refine gn ?_
      refine pf ?_;refine aq (nl ?_);exact jz ((),false) h []
    .replace h:=aC (gW hb) h;iterate 2 refine gn ?_
     refine pf ?_;refine mq ?_;iterate 2 refine gn ?_
     refine pf ?_;refine mq ?_;iterate 2 refine gn ?_
     refine pf ?_;refine mq ?_;iterate 3 refine gn ?_
     refine pf ?_;refine mq ?_;iterate 2 refine gn ?_
     refine pf ?_;refine mq ?_;iterate 2 refine gn ?_
     refine pf ?_;refine mq ?_;iterate 8 refine gn ?_
     refine pf ?_;refine mq ?_;iterate 6 refine gn ?_
     refine pf ?_;refine mq ?_;iterate 3 refine gn ?_
     refine pf ?_;refine mq ?_;iterate 3 refine gn ?_
     refine pf ?_;refine aq (nl ?_);exact jz ((),false) h []
   .replace h:=aC (gW hb) h;iterate 2 refine gn ?_
    refine pf ?_;refine mq ?_;iterate 2 refine gn ?_
    refine pf ?_;refine mq ?_;iterate 2 refine gn ?_
    refine pf ?_;refine mq ?_;iterate 2 refine gn ?_
    refine pf ?_;refine mq ?_;iterate 3 refine gn ?_
    refine pf ?_;refine mq ?_;iterate 2 refine gn ?_
    refine pf ?_;refine mq ?_;iterate 2 refine gn ?_
    refine pf ?_;refine mq ?_;iterate 8 refine gn ?_
    refine pf ?_;refine mq ?_;iterate 6 refine gn ?_
    refine pf ?_;refine mq ?_;iterate 3 refine gn ?_
    refine pf ?_;refine mq ?_;iterate 3 refine gn ?_
    refine pf ?_;refine aq (nl ?_);exact jz ((),false) h []
  .replace h:=aC (gW hb) h;iterate 2 refine gn ?_
   refine pf ?_;refine mq ?_;iterate 2 refine gn ?_
   refine pf ?_;refine mq ?_;iterate 2 refine gn ?_
   refine pf ?_;refine mq ?_;iterate 2 refine gn ?_
   refine pf ?_;refine mq ?_;iterate 2 refine gn ?_
   refine pf ?_;refine mq ?_;iterate 3 refine gn ?_
   refine pf ?_;refine mq ?_;iterate 2 refine gn ?_
   refine pf ?_;refine mq ?_;iterate 2 refine gn ?_
   refine pf ?_;refine mq ?_;iterate 8 refine gn ?_
   refine pf ?_;refine mq ?_;iterate 6 refine gn ?_
   refine pf ?_;refine mq ?_;iterate 3 refine gn ?_
   refine pf ?_;refine mq ?_;iterate 3 refine gn ?_
   refine pf ?_;refine aq (nl ?_);exact jz ((),false) h []
 .
  refine aD ?_;cases h;exact ra
def dx(k:Nat)(r3:ae×cx)(r6:(List (List Int))×Int)(r:Int):Nat->(Int×Int)->Option (Except Bool Unit)
 |0,_=>none
 |n+1,j=>
  if j.2 < (r3.1.2.2.2.2.1.length:Int) then((kR k (r3.1.1,r3.1.2.1,r3.1.2.2.1,r3.1.2.2.2.1,r3.1.2.2.2.2.1,[]) j.2 r).bind λc=>
  ((if c.2=true then(some 0) else((ck (j.1+1)).bind λQ=>
  some Q)):Option (Int)).bind λl=>
  (aQ r6.1 j.2).bind λO=>
  (aQ O r).bind λe=>
  (ck (j.2+1)).bind λM=>
  (aQ r6.1 M).bind λJ=>
  (aQ J r).bind λh=>
  ((if r3.1.2.2.2.1≤l then(if¬(h=(-1:Int)) then(some true) else(if 0 < l then(if l < r3.1.2.2.2.1 then(if¬(h=e) then(some true) else(if c.2=true then(if 0≤e then((ck (e+1)).bind λF=>
  if¬(h=F) then(some true) else(if c.2=true then(if(c.1.length:Int)=0 then(if e < 0 then(some (!decide (h=(-1:Int)))) else(some false)) else(some false)) else(some false))) else(if c.2=true then(if(c.1.length:Int)=0 then(if e < 0 then(some (!decide (h=(-1:Int)))) else(some false)) else(some false)) else(some false))) else(if c.2=true then(if(c.1.length:Int)=0 then(if e < 0 then(some (!decide (h=(-1:Int)))) else(some false)) else(some false)) else(some false)))) else(if c.2=true then(if 0≤e then((ck (e+1)).bind λE=>
  if¬(h=E) then(some true) else(if c.2=true then(if(c.1.length:Int)=0 then(if e < 0 then(some (!decide (h=(-1:Int)))) else(some false)) else(some false)) else(some false))) else(if c.2=true then(if(c.1.length:Int)=0 then(if e < 0 then(some (!decide (h=(-1:Int)))) else(some false)) else(some false)) else(some false))) else(if c.2=true then(if(c.1.length:Int)=0 then(if e < 0 then(some (!decide (h=(-1:Int)))) else(some false)) else(some false)) else(some false)))) else(if c.2=true then(if 0≤e then((ck (e+1)).bind λD=>
  if¬(h=D) then(some true) else(if c.2=true then(if(c.1.length:Int)=0 then(if e < 0 then(some (!decide (h=(-1:Int)))) else(some false)) else(some false)) else(some false))) else(if c.2=true then(if(c.1.length:Int)=0 then(if e < 0 then(some (!decide (h=(-1:Int)))) else(some false)) else(some false)) else(some false))) else(if c.2=true then(if(c.1.length:Int)=0 then(if e < 0 then(some (!decide (h=(-1:Int)))) else(some false)) else(some false)) else(some false))))) else(if 0 < l then(if l < r3.1.2.2.2.1 then(if¬(h=e) then(some true) else(if c.2=true then(if 0≤e then((ck (e+1)).bind λy=>
  if¬(h=y) then(some true) else(if c.2=true then(if(c.1.length:Int)=0 then(if e < 0 then(some (!decide (h=(-1:Int)))) else(some false)) else(some false)) else(some false))) else(if c.2=true then(if(c.1.length:Int)=0 then(if e < 0 then(some (!decide (h=(-1:Int)))) else(some false)) else(some false)) else(some false))) else(if c.2=true then(if(c.1.length:Int)=0 then(if e < 0 then(some (!decide (h=(-1:Int)))) else(some false)) else(some false)) else(some false)))) else(if c.2=true then(if 0≤e then((ck (e+1)).bind λx=>
  if¬(h=x) then(some true) else(if c.2=true then(if(c.1.length:Int)=0 then(if e < 0 then(some (!decide (h=(-1:Int)))) else(some false)) else(some false)) else(some false))) else(if c.2=true then(if(c.1.length:Int)=0 then(if e < 0 then(some (!decide (h=(-1:Int)))) else(some false)) else(some false)) else(some false))) else(if c.2=true then(if(c.1.length:Int)=0 then(if e < 0 then(some (!decide (h=(-1:Int)))) else(some false)) else(some false)) else(some false)))) else(if c.2=true then(if 0≤e then((ck (e+1)).bind λu=>
  if¬(h=u) then(some true) else(if c.2=true then(if(c.1.length:Int)=0 then(if e < 0 then(some (!decide (h=(-1:Int)))) else(some false)) else(some false)) else(some false))) else(if c.2=true then(if(c.1.length:Int)=0 then(if e < 0 then(some (!decide (h=(-1:Int)))) else(some false)) else(some false)) else(some false))) else(if c.2=true then(if(c.1.length:Int)=0 then(if e < 0 then(some (!decide (h=(-1:Int)))) else(some false)) else(some false)) else(some false))))):Option (Bool)).bind λI=>
  if I=true then(some (.error false)) else((ck (j.2+1)).bind λs=>
  dx k r3 r6 r n (l,s))) else(some (.ok ()))
def dy(k:Nat)(r3:ae×cx)(r6:(List (List Int))×Int):Nat->Int->Option (Except Bool Unit)
 |0,_=>none
 |n+1,c=>
  if c < r3.1.1 then(bE (α:=Unit) (dx k r3 r6 c k (0,0)) (λe=>some (.error e)) λ_=>
  (ck (c+1)).bind λh=>
  dy k r3 r6 n h) else(some (.ok ()))
def ku(k:Nat)(a0:(List Int)):Option Bool:=
 (lL k a0).bind λr1=>
 (iy k (r1.1,r1.2.1,r1.2.2) 5 6).bind λr3=>
 (jD k (r3.2.1,r3.2.2.1,r3.2.2.2) r3.1.1).bind λr5=>
 (i9 k (r3.1.1,r3.1.2.1,r3.1.2.2.1,r3.1.2.2.2.1,r3.1.2.2.2.2.1,[]) r5.1).bind λr6=>
 ((if¬(r6.2=0) then(some true) else((ml k (r3.1.1,r3.1.2.1,r3.1.2.2.1,r3.1.2.2.2.1,r3.1.2.2.2.2.1,[]) r6.1).bind λr9=>
 some (!r9))):Option (Bool)).bind λx7=>
 if x7=true then(some false) else(bE (α:=Unit) (dy k r3 r6 k 0) (some) λ_=>
 (cI k (r5.2.1,r5.2.2.1,r5.2.2.2) (r3.1.2.2.2.2.1.length:Int)).bind λc=>
 (ck (r3.1.1 - 1)).bind λr=>
 (cI k (c.2.1,c.2.2.1,c.2.2.2) r).bind λh=>
 (aQ r6.1 c.1).bind λn=>
 (aQ n h.1).bind λl=>
 (iu k h.1 c.1 (decide (0≤l))).bind λx=>
 (iq k (r3.1.1,r3.1.2.1,0,r3.1.2.2.2.1,r3.1.2.2.2.2.1,[x])).bind λe=>
 ((if e.2=0 then((mm k e.1 r5.1).bind λu=>
 if u=true then((qB k).bind λs=>
 some s) else(some false)) else(some false)):Option (Bool)).bind λj=>
 some j)
theorem sO(k:Nat)(a0:(List Int))(r:Bool)(h:ku k a0=some r):
 bY (dV Tryz.prog) 5 [.rep Tl a0] [] (λ_:Unit=>(bM [.eq (.bool r)],[])):=by
 unfold ku at h
 replace h:=bu h
 refine bY.of 170 Tryz.func5 rfl Tryz.ntmps5 rfl λS w0=>?_
 refine sr ?_
 refine cq ?_
 refine nt ?_
 refine sr ?_
 refine mq ?_
 obtain⟨r1,Uu,h⟩:=aa h
 have Uz:=t4 k a0 r1 Uu
 refine bi rfl rfl rfl (aA [.tmp 19] rfl rfl Sj rfl Uz) ⟨rfl,trivial⟩ λb2=>?_
 refine aq ?_
 refine nt ?_
 refine sr ?_
 refine mq ?_
 obtain⟨r3,Ut,h⟩:=aa h
 have Uy:=t5 k (r1.1,r1.2.1,r1.2.2) b2 5 6 r3 Ut
 refine kc (aA [.tmp 21,.const (.int .i64 (5)),.const (.int .i64 (6))] rfl rfl RZ rfl Uy) ?_
 refine bi rfl rfl rfl (bJ rfl Do KO) trivial λb4=>?_
 refine aV rfl rfl (aS rfl jP trivial rfl rfl) ⟨rfl,rfl,trivial⟩ ?_
 refine nt ?_
 refine sr ?_
 refine mq ?_
 refine fl gC ?_
 refine lo cJ ?_
 obtain⟨r5,Us,h⟩:=aa h
 have Ux:=t6 k (r3.2.1,r3.2.2.1,r3.2.2.2) b2 r3.1.1 r5 Us
 refine fr 1 ?_
 refine kb (aA [.tmp 23,.tmp 25] rfl rfl RY rfl Ux) ?_
 refine aq ?_
 refine nt ?_
 refine sr ?_
 refine fr 1 ?_
 refine lo jP ?_
 refine mq ?_
 obtain⟨r6,Ur,h⟩:=aa h
 have Uw:=o7 k (r3.1.1,r3.1.2.1,r3.1.2.2.1,r3.1.2.2.2.1,r3.1.2.2.2.2.1,[]) r5.1 r6 Ur
 refine jb (bR (N:=[(.tmp 28,.agg (.pair (I r3.1.1) (.pair (I r3.1.2.1) (.pair (I r3.1.2.2.1) (.pair (I r3.1.2.2.2.1) (.pair (.rep (.slice (.slice Tl)) r3.1.2.2.2.2.1) (.eq (.slice none 0 0)))))))),(.tmp 29,.rep Tl r5.1)]) (bb [.tmp 28,.tmp 29] rfl rfl P3 rfl Uw) λ_ _ _ hn=>⟨(aH (t:=ay) (x:=(r3.1.1,r3.1.2.1,r3.1.2.2.1,r3.1.2.2.2.1,r3.1.2.2.2.2.1,[])) (.agg (.pair .int (.pair .int (.pair .int (.pair .int (.pair .rep .nil)))))) trivial rfl hn.1),hn.2.1,trivial⟩) ?_
 refine mq ?_
 refine xr ?_
 refine xr ?_
 refine aq ?_
 refine aq ?_
 refine nt ?_
 refine am ?_
 refine aL (Z:=Unit) (α:=Bool) (λz8 x7=>[(3,Pt b2),(4,Pt b4),(5,.rep Tl r5.1),(6,.rep (.slice Tl) r6.1),(40,.eq (.bool x7))]) (λz8 x7=>[.obj b2 71 (.agg (.pair (.rep Tl r5.2.1) (.pair (I r5.2.2.1) (.eq (.int .u64 r5.2.2.2))))),.obj b4 26 (.agg (.pair (I r3.1.1) (.pair (I r3.1.2.1) (.pair (I r3.1.2.2.1) (.pair (I r3.1.2.2.2.1) (.pair (.rep (.slice (.slice Tl)) r3.1.2.2.2.2.1) (.eq (.slice none 0 0))))))))]) h (λK h=>?_) (λz8 x7 h=>?_)
 .
  refine ab (mq ?_);refine jb (cG rfl) ?_;refine mq ?_;refine an (s:=35) rfl (λhb=>?_) (λhb=>?_)
  .replace h:=be (GO hb) h;iterate 4 refine gn ?_
   refine pt (nl ?_);exact jz ((),true) h [1,0]
  .replace h:=aC (tU hb) h;refine lW rfl rfl rfl rfl rfl rfl (aE rfl jP (vE) rfl) ⟨rfl,trivial⟩ ?_;refine gm ?_;obtain⟨r9,Up,h⟩:=aa h;refine gb (bR (N:=[(.tmp 36,.agg (.pair (I r3.1.1) (.pair (I r3.1.2.1) (.pair (I r3.1.2.2.1) (.pair (I r3.1.2.2.2.1) (.pair (.rep (.slice (.slice Tl)) r3.1.2.2.2.2.1) (.eq (.slice none 0 0)))))))),(.tmp 37,.rep (.slice Tl) r6.1)]) (aA [.tmp 36,.tmp 37] rfl rfl Si rfl (wX k (r3.1.1,r3.1.2.1,r3.1.2.2.1,r3.1.2.2.2.1,r3.1.2.2.2.2.1,[]) r6.1 r9 Up)) λ_ _ _ hn=>⟨(aH (t:=ay) (x:=(r3.1.1,r3.1.2.1,r3.1.2.2.1,r3.1.2.2.2.1,r3.1.2.2.2.2.1,[])) (.agg (.pair .int (.pair .int (.pair .int (.pair .int (.pair .rep .nil)))))) trivial rfl hn.1),hn.2.1,trivial⟩) ?_;refine ga (iY rfl) ?_;refine pf (nl ?_);exact jz ((), !r9) h [1,0]
 .
  refine cv h (λh=>?_) (λh=>?_)
  .refine sr (cq (nt (rx ?_)));cases h;exact ra
  .refine sk (dq (Z:=Unit) (α:=Unit) (λgw mw=>[(3,Pt b2),(4,Pt b4),(5,.rep Tl r5.1),(6,.rep (.slice Tl) r6.1)]) (λgw mw=>[.obj b2 71 (.agg (.pair (.rep Tl r5.2.1) (.pair (I r5.2.2.1) (.eq (.int .u64 r5.2.2.2))))),.obj b4 26 (.agg (.pair (I r3.1.1) (.pair (I r3.1.2.1) (.pair (I r3.1.2.2.1) (.pair (I r3.1.2.2.2.1) (.pair (.rep (.slice (.slice Tl)) r3.1.2.2.2.2.1) (.eq (.slice none 0 0))))))))]) (λe=>e=r) h (λe h=>Option.some.inj h) (λK hR h=>?_) (λgw mw h=>?_))
   .refine sr (cq (nt (ak ?_)));refine aK (λY j=>[(3,Pt b2),(4,Pt b4),(5,.rep Tl r5.1),(6,.rep (.slice Tl) r6.1),(8,I j)]) (λY j=>[.obj b2 71 (.agg (.pair (.rep Tl r5.2.1) (.pair (I r5.2.2.1) (.eq (.int .u64 r5.2.2.2))))),.obj b4 26 (.agg (.pair (I r3.1.1) (.pair (I r3.1.2.1) (.pair (I r3.1.2.2.1) (.pair (I r3.1.2.2.2.1) (.pair (.rep (.slice (.slice Tl)) r3.1.2.2.2.2.1) (.eq (.slice none 0 0))))))))]) (dy k r3 r6) k () 0 (λ_=>rfl) h (SE.fin [0,1] ⟨rfl,rfl,rfl,rfl,rfl,trivial⟩ rfl) (λn Y j h=>?_);unfold dy at h;refine am (sr (mq ?_));refine fl gC ?_;refine fr 1 ?_;refine lo cJ ?_;refine jb (ba rfl) ?_;refine nt (ci h (λh=>?_) (λh=>?_))
    .refine sk (dq (Z:=Unit) (α:=Unit) (λX mc=>[(3,Pt b2),(4,Pt b4),(5,.rep Tl r5.1),(6,.rep (.slice Tl) r6.1),(8,I j)]) (λX mc=>[.obj b2 71 (.agg (.pair (.rep Tl r5.2.1) (.pair (I r5.2.2.1) (.eq (.int .u64 r5.2.2.2))))),.obj b4 26 (.agg (.pair (I r3.1.1) (.pair (I r3.1.2.1) (.pair (I r3.1.2.2.1) (.pair (I r3.1.2.2.2.1) (.pair (.rep (.slice (.slice Tl)) r3.1.2.2.2.2.1) (.eq (.slice none 0 0))))))))]) (λe=>e=r) h (λe h=>hR e h) (λK hR h=>?_) (λX mc h=>?_))
     .refine ak (sr (cq (nt (sr ?_))));refine cq (nt (ak ?_));refine aK (λU l=>[(3,Pt b2),(4,Pt b4),(5,.rep Tl r5.1),(6,.rep (.slice Tl) r6.1),(8,I j),(9,I l.1),(10,I l.2)]) (λU l=>[.obj b2 71 (.agg (.pair (.rep Tl r5.2.1) (.pair (I r5.2.2.1) (.eq (.int .u64 r5.2.2.2))))),.obj b4 26 (.agg (.pair (I r3.1.1) (.pair (I r3.1.2.1) (.pair (I r3.1.2.2.1) (.pair (I r3.1.2.2.2.1) (.pair (.rep (.slice (.slice Tl)) r3.1.2.2.2.2.1) (.eq (.slice none 0 0))))))))]) (dx k r3 r6 j) k () (0,0) (λ_=>rfl) h (SE.fin [1,0] ⟨rfl,rfl,rfl,rfl,rfl,rfl,rfl,trivial⟩ rfl) (λn U l h=>?_);unfold dx at h;refine am (sr (mq ?_));refine fl dZ ?_;refine fr 1 ?_;refine lo jQ ?_;refine ol xF ?_;refine jb (ba rfl) ?_;refine nt (ci h (λh=>?_) (λh=>?_))
      .refine sk (am (ak (sr (lo jP ?_))));iterate 2 refine mq ?_
       obtain⟨J,Ui,h⟩:=aa h;refine jc (bR (N:=[(.tmp 55,.agg (.pair (I r3.1.1) (.pair (I r3.1.2.1) (.pair (I r3.1.2.2.1) (.pair (I r3.1.2.2.2.1) (.pair (.rep (.slice (.slice Tl)) r3.1.2.2.2.2.1) (.eq (.slice none 0 0)))))))),(.tmp 56,I l.2),(.tmp 57,I j)]) (aA [.tmp 55,.tmp 56,.tmp 57] rfl rfl RX rfl (uQ k (r3.1.1,r3.1.2.1,r3.1.2.2.1,r3.1.2.2.2.1,r3.1.2.2.2.2.1,[]) l.2 j J Ui)) λ_ _ _ hn=>⟨(aH (t:=ay) (x:=(r3.1.1,r3.1.2.1,r3.1.2.2.1,r3.1.2.2.2.1,r3.1.2.2.2.2.1,[])) (.agg (.pair .int (.pair .int (.pair .int (.pair .int (.pair .rep .nil)))))) trivial rfl hn.1),hn.2.1,hn.2.2.1,trivial⟩) ?_;refine mq ?_;refine xr ?_;refine xr ?_;refine aq ?_;refine aq (nt ?_);refine aL (Z:=Unit) (α:=Int) (λQ y=>[(3,Pt b2),(4,Pt b4),(5,.rep Tl r5.1),(6,.rep (.slice Tl) r6.1),(8,I j),(9,I y),(10,I l.2),(11,.rep Tl J.1),(12,.eq (.bool J.2))]) (λQ y=>[.obj b2 71 (.agg (.pair (.rep Tl r5.2.1) (.pair (I r5.2.2.1) (.eq (.int .u64 r5.2.2.2))))),.obj b4 26 (.agg (.pair (I r3.1.1) (.pair (I r3.1.2.1) (.pair (I r3.1.2.2.1) (.pair (I r3.1.2.2.2.1) (.pair (.rep (.slice (.slice Tl)) r3.1.2.2.2.2.1) (.eq (.slice none 0 0))))))))]) h (λK h=>?_) (λQ y h=>?_)
       .refine sr (mq (nt ?_));refine cv h (λh=>?_) (λh=>?_)
        .refine ab (cq (nl ?_));exact jz ((),0) h [1,0]
        .refine ab (mq ?_);obtain⟨Un,Ub,h⟩:=aa h;refine jb (bg rfl Ub) ?_;refine aq (nl ?_);exact jz ((),Un) h [1,0]
       .refine am (cV ?_);refine dm ?_;refine dm ?_;obtain⟨UK,Ua,h⟩:=aa h;refine db (aW (t:=Tl) rfl qL gY Ua) ?_;refine da (av (t:=Tl) rfl gY rfl) ?_;refine dm ?_;obtain⟨UJ,T9,h⟩:=aa h;refine db (aW (t:=Ti) rfl fD cJ T9) ?_;refine da (av (t:=Ti) rfl cJ rfl) ?_;refine dm ?_;refine dm ?_;obtain⟨UI,T8,h⟩:=aa h;refine db (bg rfl T8) ?_;obtain⟨UH,TZ,h⟩:=aa h;refine db (aW (t:=Tl) rfl qL gY TZ) ?_;refine da (av (t:=Tl) rfl gY rfl) ?_;refine dm ?_;obtain⟨c,TY,h⟩:=aa h;refine db (aW (t:=Ti) rfl fD cJ TY) ?_;refine da (av (t:=Ti) rfl cJ rfl) ?_;refine da (nL rfl) ?_;refine df eU ?_;refine aq (nt ?_);refine aL (Z:=Unit) (α:=Bool) (λO F=>[(3,Pt b2),(4,Pt b4),(5,.rep Tl r5.1),(6,.rep (.slice Tl) r6.1),(8,I j),(9,I y),(10,I l.2),(130,.eq (.bool F))]) (λO F=>[.obj b2 71 (.agg (.pair (.rep Tl r5.2.1) (.pair (I r5.2.2.1) (.eq (.int .u64 r5.2.2.2))))),.obj b4 26 (.agg (.pair (I r3.1.1) (.pair (I r3.1.2.1) (.pair (I r3.1.2.2.1) (.pair (I r3.1.2.2.2.1) (.pair (.rep (.slice (.slice Tl)) r3.1.2.2.2.2.1) (.eq (.slice none 0 0))))))))]) h (λK h=>?_) (λO F h=>?_)
        .refine ab (mq ?_);refine fl ud ?_;refine fr 1 ?_;refine lo cJ ?_;refine jb (gq rfl) ?_;refine mq ?_;refine an (s:=83) rfl (λhb=>?_) (λhb=>?_)
         .replace h:=be (gV hb) h;refine gm ?_;refine gb (cG rfl) ?_;refine pt ?_;refine mq ?_;refine an (s:=87) rfl (λhb=>?_) (λhb=>?_)
          .replace h:=be (GO hb) h;iterate 3 refine gn ?_
           refine gu ?_;refine gu ?_;refine gu ?_;refine gu ?_;iterate 2 refine gn ?_
           refine gu ?_;refine gu ?_;refine gu ?_;refine gn ?_;refine pt ?_;refine mq ?_;iterate 2 refine gn ?_
           refine gu ?_;refine gu ?_;iterate 2 refine gn ?_
           refine gu ?_;refine gu ?_;refine gu ?_;refine gu ?_;refine gn ?_;refine pt ?_;refine mq ?_;iterate 2 refine gn ?_
           refine gu ?_;refine gu ?_;refine gu ?_;iterate 2 refine gn ?_
           refine gu ?_;refine gu ?_;iterate 2 refine gn ?_
           refine gu ?_;refine gu ?_;refine gn ?_;refine pt (nl ?_);exact jz ((),true) h [1,0]
          .replace h:=aC (tU hb) h;refine gm ?_;refine gb (mf rfl) ?_;refine gm ?_;refine an (s:=90) rfl (λhb=>?_) (λhb=>?_)
           .replace h:=be (gV hb) h;refine gm ?_;refine ga (aJ rfl ud) ?_;refine lW rfl rfl rfl rfl rfl rfl (aE rfl cJ oU rfl) ⟨rfl,trivial⟩ ?_;refine gb (ba rfl) ?_;refine gb (ax rfl) ?_;refine gm ?_;refine an (s:=96) rfl (λhb=>?_) (λhb=>?_)
            .replace h:=be (gV hb) h;refine gm ?_;refine gm ?_;refine gb (cG rfl) ?_;refine gb (ax rfl) ?_;refine pf ?_;refine mq ?_;refine an (s:=102) rfl (λhb=>?_) (λhb=>?_)
             .replace h:=be (GO hb) h;iterate 2 refine gn ?_
              refine gu ?_;refine gu ?_;iterate 2 refine gn ?_
              refine gu ?_;refine gu ?_;refine gu ?_;refine gu ?_;refine gn ?_;refine pt ?_;refine mq ?_;iterate 2 refine gn ?_
              refine gu ?_;refine gu ?_;refine gu ?_;iterate 2 refine gn ?_
              refine gu ?_;refine gu ?_;iterate 2 refine gn ?_
              refine gu ?_;refine gu ?_;refine gn ?_;refine pt (nl ?_);exact jz ((),true) h [1,0]
             .replace h:=aC (tU hb) h;refine gm ?_;refine gm ?_;refine an (s:=104) rfl (λhb=>?_) (λhb=>?_)
              .replace h:=be (o0 hb) h;refine gm ?_;refine gb (gq rfl) ?_;refine gb (ax rfl) ?_;refine gm ?_;refine an (s:=108) rfl (λhb=>?_) (λhb=>?_)
               .replace h:=be (gV hb) h;refine gm ?_;refine gm ?_;obtain⟨UG,TX,h⟩:=aa h;refine gb (bg rfl TX) ?_;refine gb (cG rfl) ?_;refine gb (ax rfl) ?_;refine pf ?_;refine mq ?_;refine an (s:=115) rfl (λhb=>?_) (λhb=>?_)
                .replace h:=be (GO hb) h;iterate 2 refine gn ?_
                 refine gu ?_;refine gu ?_;refine gu ?_;iterate 2 refine gn ?_
                 refine gu ?_;refine gu ?_;iterate 2 refine gn ?_
                 refine gu ?_;refine gu ?_;refine gn ?_;refine pt (nl ?_);exact jz ((),true) h [1,0]
                .replace h:=aC (tU hb) h;refine gm ?_;refine gm ?_;refine an (s:=117) rfl (λhb=>?_) (λhb=>?_)
                 .replace h:=be (o0 hb) h;refine gm ?_;refine ga (fW rfl rfl fD) ?_;refine gb (dP rfl) ?_;refine gb (ax rfl) ?_;refine gm ?_;refine an (s:=122) rfl (λhb=>?_) (λhb=>?_)
                  .replace h:=be (gV hb) h;refine gm ?_;refine gb (ba rfl) ?_;refine gb (ax rfl) ?_;refine gm ?_;refine an (s:=126) rfl (λhb=>?_) (λhb=>?_)
                   .replace h:=be (gV hb) h;refine gm ?_;refine gb (cG rfl) ?_;refine gb (ax rfl) ?_;refine pf (nl ?_);exact jz ((), !decide (c=(-1:Int))) h [1,0]
                   .replace h:=aC (gW hb) h;iterate 2 refine gn ?_
                    refine gb (ai rfl) ?_;refine pf (nl ?_);exact jz ((),false) h [1,0]
                  .replace h:=aC (gW hb) h;iterate 2 refine gn ?_
                   refine gb (ai rfl) ?_;refine gm ?_;iterate 2 refine gn ?_
                   refine gb (ai rfl) ?_;refine pf (nl ?_);exact jz ((),false) h [1,0]
                 .replace h:=aC (o5 hb) h;iterate 3 refine gn ?_
                  refine gb (ai rfl) ?_;refine gm ?_;iterate 2 refine gn ?_
                  refine gb (ai rfl) ?_;refine gm ?_;iterate 2 refine gn ?_
                  refine gb (ai rfl) ?_;refine pf (nl ?_);exact jz ((),false) h [1,0]
               .replace h:=aC (gW hb) h;iterate 4 refine gn ?_
                refine gb (ai rfl) ?_;refine pf ?_;refine mq ?_;refine gm ?_;refine gm ?_;refine an (s:=117) rfl (λhb=>?_) (λhb=>?_)
                .replace h:=be (o0 hb) h;refine gm ?_;refine ga (fW rfl rfl fD) ?_;refine gb (dP rfl) ?_;refine gb (ax rfl) ?_;refine gm ?_;refine an (s:=122) rfl (λhb=>?_) (λhb=>?_)
                 .replace h:=be (gV hb) h;refine gm ?_;refine gb (ba rfl) ?_;refine gb (ax rfl) ?_;refine gm ?_;refine an (s:=126) rfl (λhb=>?_) (λhb=>?_)
                  .replace h:=be (gV hb) h;refine gm ?_;refine gb (cG rfl) ?_;refine gb (ax rfl) ?_;refine pf (nl ?_);exact jz ((), !decide (c=(-1:Int))) h [1,0]
                  .replace h:=aC (gW hb) h;iterate 2 refine gn ?_
                   refine gb (ai rfl) ?_;refine pf (nl ?_);exact jz ((),false) h [1,0]
                 .replace h:=aC (gW hb) h;iterate 2 refine gn ?_
                  refine gb (ai rfl) ?_;refine gm ?_;iterate 2 refine gn ?_
                  refine gb (ai rfl) ?_;refine pf (nl ?_);exact jz ((),false) h [1,0]
                .replace h:=aC (o5 hb) h;iterate 3 refine gn ?_
                 refine gb (ai rfl) ?_;refine gm ?_;iterate 2 refine gn ?_
                 refine gb (ai rfl) ?_;refine gm ?_;iterate 2 refine gn ?_
                 refine gb (ai rfl) ?_;refine pf (nl ?_);exact jz ((),false) h [1,0]
              .replace h:=aC (o5 hb) h;iterate 2 refine gn ?_
               refine gb (ai rfl) ?_;refine gm ?_;iterate 4 refine gn ?_
               refine gb (ai rfl) ?_;refine pf ?_;refine mq ?_;refine gm ?_;refine gm ?_;refine an (s:=117) rfl (λhb=>?_) (λhb=>?_)
               .replace h:=be (o0 hb) h;refine gm ?_;refine ga (fW rfl rfl fD) ?_;refine gb (dP rfl) ?_;refine gb (ax rfl) ?_;refine gm ?_;refine an (s:=122) rfl (λhb=>?_) (λhb=>?_)
                .replace h:=be (gV hb) h;refine gm ?_;refine gb (ba rfl) ?_;refine gb (ax rfl) ?_;refine gm ?_;refine an (s:=126) rfl (λhb=>?_) (λhb=>?_)
                 .replace h:=be (gV hb) h;refine gm ?_;refine gb (cG rfl) ?_;refine gb (ax rfl) ?_;refine pf (nl ?_);exact jz ((), !decide (c=(-1:Int))) h [1,0]
                 .replace h:=aC (gW hb) h;iterate 2 refine gn ?_
                  refine gb (ai rfl) ?_;refine pf (nl ?_);exact jz ((),false) h [1,0]
                .replace h:=aC (gW hb) h;iterate 2 refine gn ?_
                 refine gb (ai rfl) ?_;refine gm ?_;iterate 2 refine gn ?_
                 refine gb (ai rfl) ?_;refine pf (nl ?_);exact jz ((),false) h [1,0]
               .replace h:=aC (o5 hb) h;iterate 3 refine gn ?_
                refine gb (ai rfl) ?_;refine gm ?_;iterate 2 refine gn ?_
                refine gb (ai rfl) ?_;refine gm ?_;iterate 2 refine gn ?_
                refine gb (ai rfl) ?_;refine pf (nl ?_);exact jz ((),false) h [1,0]
            .replace h:=aC (gW hb) h;iterate 3 refine gn ?_
             refine gb (ai rfl) ?_;refine pf ?_;refine mq ?_;refine gm ?_;refine gm ?_;refine an (s:=104) rfl (λhb=>?_) (λhb=>?_)
             .replace h:=be (o0 hb) h;refine gm ?_;refine gb (gq rfl) ?_;refine gb (ax rfl) ?_;refine gm ?_;refine an (s:=108) rfl (λhb=>?_) (λhb=>?_)
              .replace h:=be (gV hb) h;refine gm ?_;refine gm ?_;obtain⟨UF,TW,h⟩:=aa h;refine gb (bg rfl TW) ?_;refine gb (cG rfl) ?_;refine gb (ax rfl) ?_;refine pf ?_;refine mq ?_;refine an (s:=115) rfl (λhb=>?_) (λhb=>?_)
               .replace h:=be (GO hb) h;iterate 2 refine gn ?_
                refine gu ?_;refine gu ?_;refine gu ?_;iterate 2 refine gn ?_
                refine gu ?_;refine gu ?_;iterate 2 refine gn ?_
                refine gu ?_;refine gu ?_;refine gn ?_;refine pt (nl ?_);exact jz ((),true) h [1,0]
               .replace h:=aC (tU hb) h;refine gm ?_;refine gm ?_;refine an (s:=117) rfl (λhb=>?_) (λhb=>?_)
                .replace h:=be (o0 hb) h;refine gm ?_;refine ga (fW rfl rfl fD) ?_;refine gb (dP rfl) ?_;refine gb (ax rfl) ?_;refine gm ?_;refine an (s:=122) rfl (λhb=>?_) (λhb=>?_)
                 .replace h:=be (gV hb) h;refine gm ?_;refine gb (ba rfl) ?_;refine gb (ax rfl) ?_;refine gm ?_;refine an (s:=126) rfl (λhb=>?_) (λhb=>?_)
                  .replace h:=be (gV hb) h;refine gm ?_;refine gb (cG rfl) ?_;refine gb (ax rfl) ?_;refine pf (nl ?_);exact jz ((), !decide (c=(-1:Int))) h [1,0]
                  .replace h:=aC (gW hb) h;iterate 2 refine gn ?_
                   refine gb (ai rfl) ?_;refine pf (nl ?_);exact jz ((),false) h [1,0]
                 .replace h:=aC (gW hb) h;iterate 2 refine gn ?_
                  refine gb (ai rfl) ?_;refine gm ?_;iterate 2 refine gn ?_
                  refine gb (ai rfl) ?_;refine pf (nl ?_);exact jz ((),false) h [1,0]
                .replace h:=aC (o5 hb) h;iterate 3 refine gn ?_
                 refine gb (ai rfl) ?_;refine gm ?_;iterate 2 refine gn ?_
                 refine gb (ai rfl) ?_;refine gm ?_;iterate 2 refine gn ?_
                 refine gb (ai rfl) ?_;refine pf (nl ?_);exact jz ((),false) h [1,0]
              .replace h:=aC (gW hb) h;iterate 4 refine gn ?_
               refine gb (ai rfl) ?_;refine pf ?_;refine mq ?_;refine gm ?_;refine gm ?_;refine an (s:=117) rfl (λhb=>?_) (λhb=>?_)
               .replace h:=be (o0 hb) h;refine gm ?_;refine ga (fW rfl rfl fD) ?_;refine gb (dP rfl) ?_;refine gb (ax rfl) ?_;refine gm ?_;refine an (s:=122) rfl (λhb=>?_) (λhb=>?_)
                .replace h:=be (gV hb) h;refine gm ?_;refine gb (ba rfl) ?_;refine gb (ax rfl) ?_;refine gm ?_;refine an (s:=126) rfl (λhb=>?_) (λhb=>?_)
                 .replace h:=be (gV hb) h;refine gm ?_;refine gb (cG rfl) ?_;refine gb (ax rfl) ?_;refine pf (nl ?_);exact jz ((), !decide (c=(-1:Int))) h [1,0]
                 .replace h:=aC (gW hb) h;iterate 2 refine gn ?_
                  refine gb (ai rfl) ?_;refine pf (nl ?_);exact jz ((),false) h [1,0]
                .replace h:=aC (gW hb) h;iterate 2 refine gn ?_
                 refine gb (ai rfl) ?_;refine gm ?_;iterate 2 refine gn ?_
                 refine gb (ai rfl) ?_;refine pf (nl ?_);exact jz ((),false) h [1,0]
               .replace h:=aC (o5 hb) h;iterate 3 refine gn ?_
                refine gb (ai rfl) ?_;refine gm ?_;iterate 2 refine gn ?_
                refine gb (ai rfl) ?_;refine gm ?_;iterate 2 refine gn ?_
                refine gb (ai rfl) ?_;refine pf (nl ?_);exact jz ((),false) h [1,0]
             .replace h:=aC (o5 hb) h;iterate 2 refine gn ?_
              refine gb (ai rfl) ?_;refine gm ?_;iterate 4 refine gn ?_
              refine gb (ai rfl) ?_;refine pf ?_;refine mq ?_;refine gm ?_;refine gm ?_;refine an (s:=117) rfl (λhb=>?_) (λhb=>?_)
              .replace h:=be (o0 hb) h;refine gm ?_;refine ga (fW rfl rfl fD) ?_;refine gb (dP rfl) ?_;refine gb (ax rfl) ?_;refine gm ?_;refine an (s:=122) rfl (λhb=>?_) (λhb=>?_)
               .replace h:=be (gV hb) h;refine gm ?_;refine gb (ba rfl) ?_;refine gb (ax rfl) ?_;refine gm ?_;refine an (s:=126) rfl (λhb=>?_) (λhb=>?_)
                .replace h:=be (gV hb) h;refine gm ?_;refine gb (cG rfl) ?_;refine gb (ax rfl) ?_;refine pf (nl ?_);exact jz ((), !decide (c=(-1:Int))) h [1,0]
                .replace h:=aC (gW hb) h;iterate 2 refine gn ?_
                 refine gb (ai rfl) ?_;refine pf (nl ?_);exact jz ((),false) h [1,0]
               .replace h:=aC (gW hb) h;iterate 2 refine gn ?_
                refine gb (ai rfl) ?_;refine gm ?_;iterate 2 refine gn ?_
                refine gb (ai rfl) ?_;refine pf (nl ?_);exact jz ((),false) h [1,0]
              .replace h:=aC (o5 hb) h;iterate 3 refine gn ?_
               refine gb (ai rfl) ?_;refine gm ?_;iterate 2 refine gn ?_
               refine gb (ai rfl) ?_;refine gm ?_;iterate 2 refine gn ?_
               refine gb (ai rfl) ?_;refine pf (nl ?_);exact jz ((),false) h [1,0]
           .replace h:=aC (gW hb) h;iterate 4 refine gn ?_
            refine gb (ai rfl) ?_;refine gm ?_;iterate 3 refine gn ?_
            refine gb (ai rfl) ?_;refine pf ?_;refine mq ?_;refine gm ?_;refine gm ?_;refine an (s:=104) rfl (λhb=>?_) (λhb=>?_)
            .replace h:=be (o0 hb) h;refine gm ?_;refine gb (gq rfl) ?_;refine gb (ax rfl) ?_;refine gm ?_;refine an (s:=108) rfl (λhb=>?_) (λhb=>?_)
             .replace h:=be (gV hb) h;refine gm ?_;refine gm ?_;obtain⟨UE,TV,h⟩:=aa h;refine gb (bg rfl TV) ?_;refine gb (cG rfl) ?_;refine gb (ax rfl) ?_;refine pf ?_;refine mq ?_;refine an (s:=115) rfl (λhb=>?_) (λhb=>?_)
              .replace h:=be (GO hb) h;iterate 2 refine gn ?_
               refine gu ?_;refine gu ?_;refine gu ?_;iterate 2 refine gn ?_
               refine gu ?_;refine gu ?_;iterate 2 refine gn ?_
               refine gu ?_;refine gu ?_;refine gn ?_;refine pt (nl ?_);exact jz ((),true) h [1,0]
              .replace h:=aC (tU hb) h;refine gm ?_;refine gm ?_;refine an (s:=117) rfl (λhb=>?_) (λhb=>?_)
               .replace h:=be (o0 hb) h;refine gm ?_;refine ga (fW rfl rfl fD) ?_;refine gb (dP rfl) ?_;refine gb (ax rfl) ?_;refine gm ?_;refine an (s:=122) rfl (λhb=>?_) (λhb=>?_)
                .replace h:=be (gV hb) h;refine gm ?_;refine gb (ba rfl) ?_;refine gb (ax rfl) ?_;refine gm ?_;refine an (s:=126) rfl (λhb=>?_) (λhb=>?_)
                 .replace h:=be (gV hb) h;refine gm ?_;refine gb (cG rfl) ?_;refine gb (ax rfl) ?_;refine pf (nl ?_);exact jz ((), !decide (c=(-1:Int))) h [1,0]
                 .replace h:=aC (gW hb) h;iterate 2 refine gn ?_
                  refine gb (ai rfl) ?_;refine pf (nl ?_);exact jz ((),false) h [1,0]
                .replace h:=aC (gW hb) h;iterate 2 refine gn ?_
                 refine gb (ai rfl) ?_;refine gm ?_;iterate 2 refine gn ?_
                 refine gb (ai rfl) ?_;refine pf (nl ?_);exact jz ((),false) h [1,0]
               .replace h:=aC (o5 hb) h;iterate 3 refine gn ?_
                refine gb (ai rfl) ?_;refine gm ?_;iterate 2 refine gn ?_
                refine gb (ai rfl) ?_;refine gm ?_;iterate 2 refine gn ?_
                refine gb (ai rfl) ?_;refine pf (nl ?_);exact jz ((),false) h [1,0]
             .replace h:=aC (gW hb) h;iterate 4 refine gn ?_
              refine gb (ai rfl) ?_;refine pf ?_;refine mq ?_;refine gm ?_;refine gm ?_;refine an (s:=117) rfl (λhb=>?_) (λhb=>?_)
              .replace h:=be (o0 hb) h;refine gm ?_;refine ga (fW rfl rfl fD) ?_;refine gb (dP rfl) ?_;refine gb (ax rfl) ?_;refine gm ?_;refine an (s:=122) rfl (λhb=>?_) (λhb=>?_)
               .replace h:=be (gV hb) h;refine gm ?_;refine gb (ba rfl) ?_;refine gb (ax rfl) ?_;refine gm ?_;refine an (s:=126) rfl (λhb=>?_) (λhb=>?_)
                .replace h:=be (gV hb) h;refine gm ?_;refine gb (cG rfl) ?_;refine gb (ax rfl) ?_;refine pf (nl ?_);exact jz ((), !decide (c=(-1:Int))) h [1,0]
                .replace h:=aC (gW hb) h;iterate 2 refine gn ?_
                 refine gb (ai rfl) ?_;refine pf (nl ?_);exact jz ((),false) h [1,0]
               .replace h:=aC (gW hb) h;iterate 2 refine gn ?_
                refine gb (ai rfl) ?_;refine gm ?_;iterate 2 refine gn ?_
                refine gb (ai rfl) ?_;refine pf (nl ?_);exact jz ((),false) h [1,0]
              .replace h:=aC (o5 hb) h;iterate 3 refine gn ?_
               refine gb (ai rfl) ?_;refine gm ?_;iterate 2 refine gn ?_
               refine gb (ai rfl) ?_;refine gm ?_;iterate 2 refine gn ?_
               refine gb (ai rfl) ?_;refine pf (nl ?_);exact jz ((),false) h [1,0]
            .replace h:=aC (o5 hb) h;iterate 2 refine gn ?_
             refine gb (ai rfl) ?_;refine gm ?_;iterate 4 refine gn ?_
             refine gb (ai rfl) ?_;refine pf ?_;refine mq ?_;refine gm ?_;refine gm ?_;refine an (s:=117) rfl (λhb=>?_) (λhb=>?_)
             .replace h:=be (o0 hb) h;refine gm ?_;refine ga (fW rfl rfl fD) ?_;refine gb (dP rfl) ?_;refine gb (ax rfl) ?_;refine gm ?_;refine an (s:=122) rfl (λhb=>?_) (λhb=>?_)
              .replace h:=be (gV hb) h;refine gm ?_;refine gb (ba rfl) ?_;refine gb (ax rfl) ?_;refine gm ?_;refine an (s:=126) rfl (λhb=>?_) (λhb=>?_)
               .replace h:=be (gV hb) h;refine gm ?_;refine gb (cG rfl) ?_;refine gb (ax rfl) ?_;refine pf (nl ?_);exact jz ((), !decide (c=(-1:Int))) h [1,0]
               .replace h:=aC (gW hb) h;iterate 2 refine gn ?_
                refine gb (ai rfl) ?_;refine pf (nl ?_);exact jz ((),false) h [1,0]
              .replace h:=aC (gW hb) h;iterate 2 refine gn ?_
               refine gb (ai rfl) ?_;refine gm ?_;iterate 2 refine gn ?_
               refine gb (ai rfl) ?_;refine pf (nl ?_);exact jz ((),false) h [1,0]
             .replace h:=aC (o5 hb) h;iterate 3 refine gn ?_
              refine gb (ai rfl) ?_;refine gm ?_;iterate 2 refine gn ?_
              refine gb (ai rfl) ?_;refine gm ?_;iterate 2 refine gn ?_
              refine gb (ai rfl) ?_;refine pf (nl ?_);exact jz ((),false) h [1,0]
         .replace h:=aC (gW hb) h;iterate 2 refine gn ?_
          refine pf ?_;refine mq ?_;refine gm ?_;refine gb (mf rfl) ?_;refine gm ?_;refine an (s:=90) rfl (λhb=>?_) (λhb=>?_)
          .replace h:=be (gV hb) h;refine gm ?_;refine ga (aJ rfl ud) ?_;refine lW rfl rfl rfl rfl rfl rfl (aE rfl cJ oU rfl) ⟨rfl,trivial⟩ ?_;refine gb (ba rfl) ?_;refine gb (ax rfl) ?_;refine gm ?_;refine an (s:=96) rfl (λhb=>?_) (λhb=>?_)
           .replace h:=be (gV hb) h;refine gm ?_;refine gm ?_;refine gb (cG rfl) ?_;refine gb (ax rfl) ?_;refine pf ?_;refine mq ?_;refine an (s:=102) rfl (λhb=>?_) (λhb=>?_)
            .replace h:=be (GO hb) h;iterate 2 refine gn ?_
             refine gu ?_;refine gu ?_;iterate 2 refine gn ?_
             refine gu ?_;refine gu ?_;refine gu ?_;refine gu ?_;refine gn ?_;refine pt ?_;refine mq ?_;iterate 2 refine gn ?_
             refine gu ?_;refine gu ?_;refine gu ?_;iterate 2 refine gn ?_
             refine gu ?_;refine gu ?_;iterate 2 refine gn ?_
             refine gu ?_;refine gu ?_;refine gn ?_;refine pt (nl ?_);exact jz ((),true) h [1,0]
            .replace h:=aC (tU hb) h;refine gm ?_;refine gm ?_;refine an (s:=104) rfl (λhb=>?_) (λhb=>?_)
             .replace h:=be (o0 hb) h;refine gm ?_;refine gb (gq rfl) ?_;refine gb (ax rfl) ?_;refine gm ?_;refine an (s:=108) rfl (λhb=>?_) (λhb=>?_)
              .replace h:=be (gV hb) h;refine gm ?_;refine gm ?_;obtain⟨UD,TU,h⟩:=aa h;refine gb (bg rfl TU) ?_;refine gb (cG rfl) ?_;refine gb (ax rfl) ?_;refine pf ?_;refine mq ?_;refine an (s:=115) rfl (λhb=>?_) (λhb=>?_)
               .replace h:=be (GO hb) h;iterate 2 refine gn ?_
                refine gu ?_;refine gu ?_;refine gu ?_;iterate 2 refine gn ?_
                refine gu ?_;refine gu ?_;iterate 2 refine gn ?_
                refine gu ?_;refine gu ?_;refine gn ?_;refine pt (nl ?_);exact jz ((),true) h [1,0]
               .replace h:=aC (tU hb) h;refine gm ?_;refine gm ?_;refine an (s:=117) rfl (λhb=>?_) (λhb=>?_)
                .replace h:=be (o0 hb) h;refine gm ?_;refine ga (fW rfl rfl fD) ?_;refine gb (dP rfl) ?_;refine gb (ax rfl) ?_;refine gm ?_;refine an (s:=122) rfl (λhb=>?_) (λhb=>?_)
                 .replace h:=be (gV hb) h;refine gm ?_;refine gb (ba rfl) ?_;refine gb (ax rfl) ?_;refine gm ?_;refine an (s:=126) rfl (λhb=>?_) (λhb=>?_)
                  .replace h:=be (gV hb) h;refine gm ?_;refine gb (cG rfl) ?_;refine gb (ax rfl) ?_;refine pf (nl ?_);exact jz ((), !decide (c=(-1:Int))) h [1,0]
                  .replace h:=aC (gW hb) h;iterate 2 refine gn ?_
                   refine gb (ai rfl) ?_;refine pf (nl ?_);exact jz ((),false) h [1,0]
                 .replace h:=aC (gW hb) h;iterate 2 refine gn ?_
                  refine gb (ai rfl) ?_;refine gm ?_;iterate 2 refine gn ?_
                  refine gb (ai rfl) ?_;refine pf (nl ?_);exact jz ((),false) h [1,0]
                .replace h:=aC (o5 hb) h;iterate 3 refine gn ?_
                 refine gb (ai rfl) ?_;refine gm ?_;iterate 2 refine gn ?_
                 refine gb (ai rfl) ?_;refine gm ?_;iterate 2 refine gn ?_
                 refine gb (ai rfl) ?_;refine pf (nl ?_);exact jz ((),false) h [1,0]
              .replace h:=aC (gW hb) h;iterate 4 refine gn ?_
               refine gb (ai rfl) ?_;refine pf ?_;refine mq ?_;refine gm ?_;refine gm ?_;refine an (s:=117) rfl (λhb=>?_) (λhb=>?_)
               .replace h:=be (o0 hb) h;refine gm ?_;refine ga (fW rfl rfl fD) ?_;refine gb (dP rfl) ?_;refine gb (ax rfl) ?_;refine gm ?_;refine an (s:=122) rfl (λhb=>?_) (λhb=>?_)
                .replace h:=be (gV hb) h;refine gm ?_;refine gb (ba rfl) ?_;refine gb (ax rfl) ?_;refine gm ?_;refine an (s:=126) rfl (λhb=>?_) (λhb=>?_)
                 .replace h:=be (gV hb) h;refine gm ?_;refine gb (cG rfl) ?_;refine gb (ax rfl) ?_;refine pf (nl ?_);exact jz ((), !decide (c=(-1:Int))) h [1,0]
                 .replace h:=aC (gW hb) h;iterate 2 refine gn ?_
                  refine gb (ai rfl) ?_;refine pf (nl ?_);exact jz ((),false) h [1,0]
                .replace h:=aC (gW hb) h;iterate 2 refine gn ?_
                 refine gb (ai rfl) ?_;refine gm ?_;iterate 2 refine gn ?_
                 refine gb (ai rfl) ?_;refine pf (nl ?_);exact jz ((),false) h [1,0]
               .replace h:=aC (o5 hb) h;iterate 3 refine gn ?_
                refine gb (ai rfl) ?_;refine gm ?_;iterate 2 refine gn ?_
                refine gb (ai rfl) ?_;refine gm ?_;iterate 2 refine gn ?_
                refine gb (ai rfl) ?_;refine pf (nl ?_);exact jz ((),false) h [1,0]
             .replace h:=aC (o5 hb) h;iterate 2 refine gn ?_
              refine gb (ai rfl) ?_;refine gm ?_;iterate 4 refine gn ?_
              refine gb (ai rfl) ?_;refine pf ?_;refine mq ?_;refine gm ?_;refine gm ?_;refine an (s:=117) rfl (λhb=>?_) (λhb=>?_)
              .replace h:=be (o0 hb) h;refine gm ?_;refine ga (fW rfl rfl fD) ?_;refine gb (dP rfl) ?_;refine gb (ax rfl) ?_;refine gm ?_;refine an (s:=122) rfl (λhb=>?_) (λhb=>?_)
               .replace h:=be (gV hb) h;refine gm ?_;refine gb (ba rfl) ?_;refine gb (ax rfl) ?_;refine gm ?_;refine an (s:=126) rfl (λhb=>?_) (λhb=>?_)
                .replace h:=be (gV hb) h;refine gm ?_;refine gb (cG rfl) ?_;refine gb (ax rfl) ?_;refine pf (nl ?_);exact jz ((), !decide (c=(-1:Int))) h [1,0]
                .replace h:=aC (gW hb) h;iterate 2 refine gn ?_
                 refine gb (ai rfl) ?_;refine pf (nl ?_);exact jz ((),false) h [1,0]
               .replace h:=aC (gW hb) h;iterate 2 refine gn ?_
                refine gb (ai rfl) ?_;refine gm ?_;iterate 2 refine gn ?_
                refine gb (ai rfl) ?_;refine pf (nl ?_);exact jz ((),false) h [1,0]
              .replace h:=aC (o5 hb) h;iterate 3 refine gn ?_
               refine gb (ai rfl) ?_;refine gm ?_;iterate 2 refine gn ?_
               refine gb (ai rfl) ?_;refine gm ?_;iterate 2 refine gn ?_
               refine gb (ai rfl) ?_;refine pf (nl ?_);exact jz ((),false) h [1,0]
           .replace h:=aC (gW hb) h;iterate 3 refine gn ?_
            refine gb (ai rfl) ?_;refine pf ?_;refine mq ?_;refine gm ?_;refine gm ?_;refine an (s:=104) rfl (λhb=>?_) (λhb=>?_)
            .replace h:=be (o0 hb) h;refine gm ?_;refine gb (gq rfl) ?_;refine gb (ax rfl) ?_;refine gm ?_;refine an (s:=108) rfl (λhb=>?_) (λhb=>?_)
             .replace h:=be (gV hb) h;refine gm ?_;refine gm ?_;obtain⟨UC,TS,h⟩:=aa h;refine gb (bg rfl TS) ?_;refine gb (cG rfl) ?_;refine gb (ax rfl) ?_;refine pf ?_;refine mq ?_;refine an (s:=115) rfl (λhb=>?_) (λhb=>?_)
              .replace h:=be (GO hb) h;iterate 2 refine gn ?_
               refine gu ?_;refine gu ?_;refine gu ?_;iterate 2 refine gn ?_
               refine gu ?_;refine gu ?_;iterate 2 refine gn ?_
               refine gu ?_;refine gu ?_;refine gn ?_;refine pt (nl ?_);exact jz ((),true) h [1,0]
              .replace h:=aC (tU hb) h;refine gm ?_;refine gm ?_;refine an (s:=117) rfl (λhb=>?_) (λhb=>?_)
               .replace h:=be (o0 hb) h;refine gm ?_;refine ga (fW rfl rfl fD) ?_;refine gb (dP rfl) ?_;refine gb (ax rfl) ?_;refine gm ?_;refine an (s:=122) rfl (λhb=>?_) (λhb=>?_)
                .replace h:=be (gV hb) h;refine gm ?_;refine gb (ba rfl) ?_;refine gb (ax rfl) ?_;refine gm ?_;refine an (s:=126) rfl (λhb=>?_) (λhb=>?_)
                 .replace h:=be (gV hb) h;refine gm ?_;refine gb (cG rfl) ?_;refine gb (ax rfl) ?_;refine pf (nl ?_);exact jz ((), !decide (c=(-1:Int))) h [1,0]
                 .replace h:=aC (gW hb) h;iterate 2 refine gn ?_
                  refine gb (ai rfl) ?_;refine pf (nl ?_);exact jz ((),false) h [1,0]
                .replace h:=aC (gW hb) h;iterate 2 refine gn ?_
                 refine gb (ai rfl) ?_;refine gm ?_;iterate 2 refine gn ?_
                 refine gb (ai rfl) ?_;refine pf (nl ?_);exact jz ((),false) h [1,0]
               .replace h:=aC (o5 hb) h;iterate 3 refine gn ?_
                refine gb (ai rfl) ?_;refine gm ?_;iterate 2 refine gn ?_
                refine gb (ai rfl) ?_;refine gm ?_;iterate 2 refine gn ?_
                refine gb (ai rfl) ?_;refine pf (nl ?_);exact jz ((),false) h [1,0]
             .replace h:=aC (gW hb) h;iterate 4 refine gn ?_
              refine gb (ai rfl) ?_;refine pf ?_;refine mq ?_;refine gm ?_;refine gm ?_;refine an (s:=117) rfl (λhb=>?_) (λhb=>?_)
              .replace h:=be (o0 hb) h;refine gm ?_;refine ga (fW rfl rfl fD) ?_;refine gb (dP rfl) ?_;refine gb (ax rfl) ?_;refine gm ?_;refine an (s:=122) rfl (λhb=>?_) (λhb=>?_)
               .replace h:=be (gV hb) h;refine gm ?_;refine gb (ba rfl) ?_;refine gb (ax rfl) ?_;refine gm ?_;refine an (s:=126) rfl (λhb=>?_) (λhb=>?_)
                .replace h:=be (gV hb) h;refine gm ?_;refine gb (cG rfl) ?_;refine gb (ax rfl) ?_;refine pf (nl ?_);exact jz ((), !decide (c=(-1:Int))) h [1,0]
                .replace h:=aC (gW hb) h;iterate 2 refine gn ?_
                 refine gb (ai rfl) ?_;refine pf (nl ?_);exact jz ((),false) h [1,0]
               .replace h:=aC (gW hb) h;iterate 2 refine gn ?_
                refine gb (ai rfl) ?_;refine gm ?_;iterate 2 refine gn ?_
                refine gb (ai rfl) ?_;refine pf (nl ?_);exact jz ((),false) h [1,0]
              .replace h:=aC (o5 hb) h;iterate 3 refine gn ?_
               refine gb (ai rfl) ?_;refine gm ?_;iterate 2 refine gn ?_
               refine gb (ai rfl) ?_;refine gm ?_;iterate 2 refine gn ?_
               refine gb (ai rfl) ?_;refine pf (nl ?_);exact jz ((),false) h [1,0]
            .replace h:=aC (o5 hb) h;iterate 2 refine gn ?_
             refine gb (ai rfl) ?_;refine gm ?_;iterate 4 refine gn ?_
             refine gb (ai rfl) ?_;refine pf ?_;refine mq ?_;refine gm ?_;refine gm ?_;refine an (s:=117) rfl (λhb=>?_) (λhb=>?_)
             .replace h:=be (o0 hb) h;refine gm ?_;refine ga (fW rfl rfl fD) ?_;refine gb (dP rfl) ?_;refine gb (ax rfl) ?_;refine gm ?_;refine an (s:=122) rfl (λhb=>?_) (λhb=>?_)
              .replace h:=be (gV hb) h;refine gm ?_;refine gb (ba rfl) ?_;refine gb (ax rfl) ?_;refine gm ?_;refine an (s:=126) rfl (λhb=>?_) (λhb=>?_)
               .replace h:=be (gV hb) h;refine gm ?_;refine gb (cG rfl) ?_;refine gb (ax rfl) ?_;refine pf (nl ?_);exact jz ((), !decide (c=(-1:Int))) h [1,0]
               .replace h:=aC (gW hb) h;iterate 2 refine gn ?_
                refine gb (ai rfl) ?_;refine pf (nl ?_);exact jz ((),false) h [1,0]
              .replace h:=aC (gW hb) h;iterate 2 refine gn ?_
               refine gb (ai rfl) ?_;refine gm ?_;iterate 2 refine gn ?_
               refine gb (ai rfl) ?_;refine pf (nl ?_);exact jz ((),false) h [1,0]
             .replace h:=aC (o5 hb) h;iterate 3 refine gn ?_
              refine gb (ai rfl) ?_;refine gm ?_;iterate 2 refine gn ?_
              refine gb (ai rfl) ?_;refine gm ?_;iterate 2 refine gn ?_
              refine gb (ai rfl) ?_;refine pf (nl ?_);exact jz ((),false) h [1,0]
          .replace h:=aC (gW hb) h;iterate 4 refine gn ?_
           refine gb (ai rfl) ?_;refine gm ?_;iterate 3 refine gn ?_
           refine gb (ai rfl) ?_;refine pf ?_;refine mq ?_;refine gm ?_;refine gm ?_;refine an (s:=104) rfl (λhb=>?_) (λhb=>?_)
           .replace h:=be (o0 hb) h;refine gm ?_;refine gb (gq rfl) ?_;refine gb (ax rfl) ?_;refine gm ?_;refine an (s:=108) rfl (λhb=>?_) (λhb=>?_)
            .replace h:=be (gV hb) h;refine gm ?_;refine gm ?_;obtain⟨UB,TR,h⟩:=aa h;refine gb (bg rfl TR) ?_;refine gb (cG rfl) ?_;refine gb (ax rfl) ?_;refine pf ?_;refine mq ?_;refine an (s:=115) rfl (λhb=>?_) (λhb=>?_)
             .replace h:=be (GO hb) h;iterate 2 refine gn ?_
              refine gu ?_;refine gu ?_;refine gu ?_;iterate 2 refine gn ?_
              refine gu ?_;refine gu ?_;iterate 2 refine gn ?_
              refine gu ?_;refine gu ?_;refine gn ?_;refine pt (nl ?_);exact jz ((),true) h [1,0]
             .replace h:=aC (tU hb) h;refine gm ?_;refine gm ?_;refine an (s:=117) rfl (λhb=>?_) (λhb=>?_)
              .replace h:=be (o0 hb) h;refine gm ?_;refine ga (fW rfl rfl fD) ?_;refine gb (dP rfl) ?_;refine gb (ax rfl) ?_;refine gm ?_;refine an (s:=122) rfl (λhb=>?_) (λhb=>?_)
               .replace h:=be (gV hb) h;refine gm ?_;refine gb (ba rfl) ?_;refine gb (ax rfl) ?_;refine gm ?_;refine an (s:=126) rfl (λhb=>?_) (λhb=>?_)
                .replace h:=be (gV hb) h;refine gm ?_;refine gb (cG rfl) ?_;refine gb (ax rfl) ?_;refine pf (nl ?_);exact jz ((), !decide (c=(-1:Int))) h [1,0]
                .replace h:=aC (gW hb) h;iterate 2 refine gn ?_
                 refine gb (ai rfl) ?_;refine pf (nl ?_);exact jz ((),false) h [1,0]
               .replace h:=aC (gW hb) h;iterate 2 refine gn ?_
                refine gb (ai rfl) ?_;refine gm ?_;iterate 2 refine gn ?_
                refine gb (ai rfl) ?_;refine pf (nl ?_);exact jz ((),false) h [1,0]
              .replace h:=aC (o5 hb) h;iterate 3 refine gn ?_
               refine gb (ai rfl) ?_;refine gm ?_;iterate 2 refine gn ?_
               refine gb (ai rfl) ?_;refine gm ?_;iterate 2 refine gn ?_
               refine gb (ai rfl) ?_;refine pf (nl ?_);exact jz ((),false) h [1,0]
            .replace h:=aC (gW hb) h;iterate 4 refine gn ?_
             refine gb (ai rfl) ?_;refine pf ?_;refine mq ?_;refine gm ?_;refine gm ?_;refine an (s:=117) rfl (λhb=>?_) (λhb=>?_)
             .replace h:=be (o0 hb) h;refine gm ?_;refine ga (fW rfl rfl fD) ?_;refine gb (dP rfl) ?_;refine gb (ax rfl) ?_;refine gm ?_;refine an (s:=122) rfl (λhb=>?_) (λhb=>?_)
              .replace h:=be (gV hb) h;refine gm ?_;refine gb (ba rfl) ?_;refine gb (ax rfl) ?_;refine gm ?_;refine an (s:=126) rfl (λhb=>?_) (λhb=>?_)
               .replace h:=be (gV hb) h;refine gm ?_;refine gb (cG rfl) ?_;refine gb (ax rfl) ?_;refine pf (nl ?_);exact jz ((), !decide (c=(-1:Int))) h [1,0]
               .replace h:=aC (gW hb) h;iterate 2 refine gn ?_
                refine gb (ai rfl) ?_;refine pf (nl ?_);exact jz ((),false) h [1,0]
              .replace h:=aC (gW hb) h;iterate 2 refine gn ?_
               refine gb (ai rfl) ?_;refine gm ?_;iterate 2 refine gn ?_
               refine gb (ai rfl) ?_;refine pf (nl ?_);exact jz ((),false) h [1,0]
             .replace h:=aC (o5 hb) h;iterate 3 refine gn ?_
              refine gb (ai rfl) ?_;refine gm ?_;iterate 2 refine gn ?_
              refine gb (ai rfl) ?_;refine gm ?_;iterate 2 refine gn ?_
              refine gb (ai rfl) ?_;refine pf (nl ?_);exact jz ((),false) h [1,0]
           .replace h:=aC (o5 hb) h;iterate 2 refine gn ?_
            refine gb (ai rfl) ?_;refine gm ?_;iterate 4 refine gn ?_
            refine gb (ai rfl) ?_;refine pf ?_;refine mq ?_;refine gm ?_;refine gm ?_;refine an (s:=117) rfl (λhb=>?_) (λhb=>?_)
            .replace h:=be (o0 hb) h;refine gm ?_;refine ga (fW rfl rfl fD) ?_;refine gb (dP rfl) ?_;refine gb (ax rfl) ?_;refine gm ?_;refine an (s:=122) rfl (λhb=>?_) (λhb=>?_)
             .replace h:=be (gV hb) h;refine gm ?_;refine gb (ba rfl) ?_;refine gb (ax rfl) ?_;refine gm ?_;refine an (s:=126) rfl (λhb=>?_) (λhb=>?_)
              .replace h:=be (gV hb) h;refine gm ?_;refine gb (cG rfl) ?_;refine gb (ax rfl) ?_;refine pf (nl ?_);exact jz ((), !decide (c=(-1:Int))) h [1,0]
              .replace h:=aC (gW hb) h;iterate 2 refine gn ?_
               refine gb (ai rfl) ?_;refine pf (nl ?_);exact jz ((),false) h [1,0]
             .replace h:=aC (gW hb) h;iterate 2 refine gn ?_
              refine gb (ai rfl) ?_;refine gm ?_;iterate 2 refine gn ?_
              refine gb (ai rfl) ?_;refine pf (nl ?_);exact jz ((),false) h [1,0]
            .replace h:=aC (o5 hb) h;iterate 3 refine gn ?_
             refine gb (ai rfl) ?_;refine gm ?_;iterate 2 refine gn ?_
             refine gb (ai rfl) ?_;refine gm ?_;iterate 2 refine gn ?_
             refine gb (ai rfl) ?_;refine pf (nl ?_);exact jz ((),false) h [1,0]
        .refine cv h (λh=>?_) (λh=>?_)
         .refine sr (cq (nt (aD (br (bD (br (bD (bG ?_))))))));obtain rfl:=hR _ h;exact ra
         .refine bp (aZ (tn (ab (mq ?_))));obtain⟨Um,TP,h⟩:=aa h;refine jb (bg rfl TP) ?_;refine aq (nl ?_);exact jz ((),(y,Um)) h [0,1]
      .refine fg (bK (bK (cX (bn ?_))));exact jz ((),()) h [1,0]
     .refine ab (mq ?_);obtain⟨Ul,TO,h⟩:=aa h;refine jb (bg rfl TO) ?_;refine aq (nl ?_);exact jz ((),Ul) h [0,1]
    .refine xa ?_;exact jz ((),()) h [1,0]
   .refine sr (fl xi ?_);refine fr 1 ?_;refine aV rfl rfl (aS rfl cJ rfl rfl rfl) ⟨rfl,rfl,trivial⟩ ?_;refine nt (am (cV ?_));refine dm ?_;refine da (aJ rfl dZ) ?_;refine ea 0 (aE rfl jQ oU rfl) ?_;refine da (fW rfl rfl xF) ?_;obtain⟨u,Uh,h⟩:=aa h;refine Dk 1 rfl rfl rfl rfl (aA [.tmp 132,.tmp 135] rfl rfl xn rfl (cS k (r5.2.1,r5.2.2.1,r5.2.2.2) b2 (r3.1.2.2.2.2.1.length:Int) u Uh)) ⟨rfl,rfl,trivial⟩ ?_;refine dm ?_;refine da (aJ rfl gC) ?_;refine ea 0 (aE rfl cJ oU rfl) ?_;obtain⟨Uk,TN,h⟩:=aa h;refine db (eG rfl TN) ?_;refine Dl (Δ':=[.obj b4 26 (.agg (.pair (I r3.1.1) (.pair (I r3.1.2.1) (.pair (I 0) (.pair (I r3.1.2.2.2.1) (.pair (.rep (.slice (.slice Tl)) r3.1.2.2.2.2.1) (.eq (.slice none 0 0)))))))),.obj b2 71 (.agg (.pair (.rep Tl u.2.1) (.pair (I u.2.2.1) (.eq (.int .u64 u.2.2.2)))))]) (by kernel_rfl) eU (by kernel_rfl) ?_;obtain⟨TK,Ug,h⟩:=aa h;refine fr 1 ?_;refine kb (aA [.tmp 137,.tmp 140] rfl rfl xn rfl (cS k (u.2.1,u.2.2.1,u.2.2.2) b2 Uk TK Ug)) ?_;refine aq ?_;refine aq (nt (sr ?_));iterate 4 refine mq ?_
    obtain⟨UA,TM,h⟩:=aa h;refine jb (aW (t:=Tl) rfl qL gY TM) ?_;refine ja (av (t:=Tl) rfl gY rfl) ?_;refine mq ?_;obtain⟨Uj,TL,h⟩:=aa h;refine jb (aW (t:=Ti) rfl fD cJ TL) ?_;refine ja (av (t:=Ti) rfl cJ rfl) ?_;refine jb (gq rfl) ?_;obtain⟨D,Uf,h⟩:=aa h;refine jc (aA [.tmp 142,.tmp 143,.tmp 151] rfl rfl Kr rfl (jq k TK.1 u.1 (decide (0≤Uj)) D Uf)) ?_;refine ja (bh (t:=bL) [(.tmp 152,_)] [D] rfl rfl MR (.cons rfl .rep .nil) rfl rfl) ?_;refine fl xh ?_;refine fr 1 ?_;refine aV rfl rfl (aS rfl IW rfl rfl rfl) ⟨rfl,rfl,trivial⟩ ?_;refine nt (sr (lo jP ?_));obtain⟨zz,Ue,h⟩:=aa h;refine ja (bR (N:=[(.tmp 156,.agg (.pair (I r3.1.1) (.pair (I r3.1.2.1) (.pair (I 0) (.pair (I r3.1.2.2.2.1) (.pair (.rep (.slice (.slice Tl)) r3.1.2.2.2.2.1) (Rs bL [D])))))))]) (bb [.tmp 156] rfl rfl P7 rfl (o8 k (r3.1.1,r3.1.2.1,0,r3.1.2.2.2.1,r3.1.2.2.2.2.1,[D]) zz Ue)) λ_ _ _ hn=>⟨(aH (t:=ay) (x:=(r3.1.1,r3.1.2.1,0,r3.1.2.2.2.1,r3.1.2.2.2.2.1,[D])) (.agg (.pair .int (.pair .int (.pair .int (.pair .int (.pair .rep .rep)))))) trivial rfl hn.1),trivial⟩) ?_;refine mq ?_;refine xr ?_;refine xr ?_;refine aq ?_;refine aq (nt ?_);refine aL (Z:=Unit) (α:=Bool) (λM E=>[(2,.eq (.bool E))]) (λM E=>[]) h (λK h=>?_) (λM E h=>?_)
    .refine ab (mq ?_);refine jb (dP rfl) ?_;refine mq ?_;refine an (s:=162) rfl (λhb=>?_) (λhb=>?_)
     .replace h:=be (gV hb) h;refine gm ?_;refine gm ?_;obtain⟨Uo,Ud,h⟩:=aa h;refine gb (aA [.tmp 163,.tmp 164] rfl rfl R2 rfl (wY k zz.1 r5.1 Uo Ud)) ?_;refine pt ?_;refine mq ?_;refine an (s:=167) rfl (λhb=>?_) (λhb=>?_)
      .replace h:=be (o0 hb) h;obtain⟨qt,Uc,h⟩:=aa h;refine lr rfl rfl rfl rfl rfl rfl (bb [] rfl rfl R7 rfl (yU k qt Uc)) trivial ?_;refine pt ?_;refine aq (nl ?_);exact jz ((),qt) h []
      .replace h:=aC (o5 hb) h;refine gn ?_;refine pf ?_;refine aq (nl ?_);exact jz ((),false) h []
     .replace h:=aC (gW hb) h;iterate 3 refine gn ?_
      refine pf ?_;refine mq ?_;refine gn ?_;refine pf ?_;refine aq (nl ?_);exact jz ((),false) h []
    .refine aD ?_;cases h;exact ra
