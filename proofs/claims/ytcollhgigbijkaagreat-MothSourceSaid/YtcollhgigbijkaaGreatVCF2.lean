import Derived.Test.YtcollhgigbijkaaGreatVCB10
open Nat
open List hiding mem_of_getElem?
open Array hiding mem_of_getElem? mk
set_option linter.unusedSimpArgs false
set_option linter.unusedVariables false
set_option maxRecDepth 4000
set_option maxHeartbeats 1000000
namespace Go.Proofs.YtcollhgigbijkaaGreat
open K Go Go.Proofs
def fq(k:Nat)(r4:(List Int)×bO):Nat->((List Int)×Int×Int×Int×(List (List Int)))->Option ((List Int)×Int×Int×(List (List Int)))
 |0,_=>none
 |n+1,y7=>
  if y7.2.2.2.1 < (r4.1.length:Int) then((((fh k (y7.1,y7.2.1,y7.2.2.1) 5).bind λc=>
  if c.1=true then(some (c.2.1,c.2.2.1,c.2.2.2,y7.2.2.2.2)) else((ck ((y7.2.2.2.2.length:Int) - 1)).bind λr=>
  (cu k (c.2.1,c.2.2.1,c.2.2.2) r).bind λe=>
  (aQ y7.2.2.2.2 e.1).bind λj=>
  (aQ r4.1 y7.2.2.2.1).bind λh=>
  (cK (cf (length j+length [h]))).bind λ_=>
  some (e.2.1,e.2.2.1,e.2.2.2,List.set y7.2.2.2.2 (Int.toNat e.1) (j++[h])))):Option ((List Int)×Int×Int×(List (List Int)))).bind λx9=>
  (ck (y7.2.2.2.1+1)).bind λl=>
  fq k r4 n (x9.1,x9.2.1,x9.2.2.1,l,x9.2.2.2)) else(some (y7.1,y7.2.1,y7.2.2.1,y7.2.2.2.2))
def jJ(k:Nat)(a0:bO)(a1:Int):Option ((List (List Int))×bO):=
 (fF k (a0.1,a0.2.1,a0.2.2) 1 3).bind λr1=>
 (cK (0≤r1.1/\cf (Int.toNat r1.1))).bind λ_=>
 (gz k (r1.2.1,r1.2.2.1,r1.2.2.2) a1).bind λr4=>
 ((fq k r4 k (r4.2.1,r4.2.2.1,r4.2.2.2,0,List.replicate (Int.toNat r1.1) ([]:(List Int)))):Option ((List Int)×Int×Int×(List (List Int)))).bind λx5=>
 some (x5.2.2.2,(x5.1,x5.2.1,x5.2.2.1))
theorem uj(k:Nat)(a0:bO)(c:Nat)(a1:Int)(r:(List (List Int))×bO)(h:jJ k a0 a1=some r):
 dH Tryz.prog 65 [Pt c,I a1] [.obj c 69 (.agg (.pair (.rep Tl a0.1) (.pair (I a0.2.1) (.eq (.int .u64 a0.2.2)))))] (λ_:Unit=>(bI [.rep (.slice Tl) r.1],[.obj c 69 (.agg (.pair (.rep Tl r.2.1) (.pair (I r.2.2.1) (.eq (.int .u64 r.2.2.2)))))])):=by
 unfold jJ at h
 replace h:=bi h
 refine dH.of 42 Tryz.func65 rfl Tryz.ntmps65 rfl λS w0=>?_
 refine sr ?_
 refine cq ?_
 refine nt ?_
 refine sr ?_
 refine mq ?_
 obtain⟨r1,Ux,h⟩:=aa h
 have Uz:=iS k (a0.1,a0.2.1,a0.2.2) c 1 3 r1 Ux
 refine kc (av [.tmp 9,.const (.int .i64 (1)),.const (.int .i64 (3))] rfl rfl KX rfl Uz) ?_
 obtain⟨u2,U,h⟩:=aa h
 refine aX rfl rfl rfl (GL (t:=.val) (d:=.slice none 0 0) rfl o8 O9 (am U).1 (am U).2) ⟨rfl,rfl,trivial⟩ λv3=>?_
 refine fg (Iw (F:=[.obj c 69 (.agg (.pair (.rep Tl r1.2.1) (.pair (I r1.2.2.1) (.eq (.int .u64 r1.2.2.2)))))])) ?_
 refine aq ?_
 refine nt ?_
 refine sr ?_
 iterate 2 refine mq ?_
 obtain⟨r4,Uw,h⟩:=aa h
 have Uy:=qN k (r1.2.1,r1.2.2.1,r1.2.2.2) c a1 r4 Uw
 refine kb (av [.tmp 12,.tmp 13] rfl rfl Sr rfl Uy) ?_
 refine aq ?_
 refine nt ?_
 refine aG (Z:=(Value×(Nat->Value))) (α:=(List Int)×Int×Int×(List (List Int))) (λz6 x5=>[(5,.eq z6.1)]) (λz6 x5=>[.obj c 69 (.agg (.pair (.rep Tl x5.1) (.pair (I x5.2.1) (.eq (.int .u64 x5.2.2.1)))))]++wY 22 z6 x5.2.2.2) h (λK h=>?_) (λz6 x5 h=>?_)
 .
  refine sr (cq (nt (aj ?_)));refine aE (Z:=(Value×(Nat->Value))) (α:=(List Int)×Int×Int×Int×(List (List Int))) (λz8 y7=>[(0,Pt c),(5,.eq z8.1),(6,.rep Tl r4.1),(7,I y7.2.2.2.1)]) (λz8 y7=>[.obj c 69 (.agg (.pair (.rep Tl y7.1) (.pair (I y7.2.1) (.eq (.int .u64 y7.2.2.1)))))]++wY 22 z8 y7.2.2.2.2) (fq k r4) k (v3,λ_=>.slice none 0 0) (r4.2.1,r4.2.2.1,r4.2.2.2,0,List.replicate (Int.toNat r1.1) ([]:(List Int))) (λ_=>rfl) h (kD [.obj c 69 (.agg (.pair (.rep Tl r4.2.1) (.pair (I r4.2.2.1) (.eq (.int .u64 r4.2.2.2)))))] (wY 22 (v3,λ_=>.slice none 0 0) (List.replicate (Int.toNat r1.1) ([]:(List Int)))) [0] ⟨rfl,rfl,rfl,rfl,trivial⟩ rfl) (λn z8 y7 h=>?_);unfold fq at h;refine ak (sr ?_);iterate 2 refine mq ?_
  refine ol iv ?_;refine jb (bH rfl) ?_;refine nt (ci h (λh=>?_) (λh=>?_))
  .refine sk (aG (Z:=(Value×(Nat->Value))) (α:=(List Int)×Int×Int×(List (List Int))) (λy x9=>[(0,Pt c),(5,.eq y.1),(6,.rep Tl r4.1),(7,I y7.2.2.2.1)]) (λy x9=>[.obj c 69 (.agg (.pair (.rep Tl x9.1) (.pair (I x9.2.1) (.eq (.int .u64 x9.2.2.1)))))]++wY 22 y x9.2.2.2) h (λK h=>?_) (λy x9 h=>?_))
   .refine aj (ak (sr (mq ?_)));obtain⟨j,gw,h⟩:=aa h;refine kb (av [.tmp 21,.const (.int .i64 (5))] rfl rfl Ol rfl (jk k (y7.1,y7.2.1,y7.2.2.1) c 5 j gw)) ?_;refine nt (cv h (λh=>?_) (λh=>?_))
    .refine fV (bR (c8 (an ?_)));exact uQ (z8,(j.2.1,j.2.2.1,j.2.2.2,y7.2.2.2.2)) h (kD [.obj c 69 (.agg (.pair (.rep Tl j.2.1) (.pair (I j.2.2.1) (.eq (.int .u64 j.2.2.2)))))] (wY 22 z8 y7.2.2.2.2) [0] ⟨rfl,rfl,rfl,rfl,trivial⟩ rfl)
    .refine sk (sr ?_);iterate 2 refine mq ?_
     refine IE (pre:=[.obj c 69 (.agg (.pair (.rep Tl j.2.1) (.pair (I j.2.2.1) (.eq (.int .u64 j.2.2.2)))))]) rfl rfl rfl rfl rfl qX ⟨rfl,trivial⟩ ?_;obtain⟨mw,Q,h⟩:=aa h;refine jb (eF rfl Q) ?_;obtain⟨e,Y,h⟩:=aa h;refine kb (av [.tmp 23,.tmp 26] rfl rfl vv rfl (cF k (j.2.1,j.2.2.1,j.2.2.2) c mw e Y)) ?_;refine aq (nt ?_);obtain⟨x,s,h⟩:=aa h;refine jd (EO (pre:=[.obj c 69 (.agg (.pair (.rep Tl e.2.1) (.pair (I e.2.2.1) (.eq (.int .u64 e.2.2.2)))))]) (CG s).2) ?_;obtain⟨u,O,h⟩:=aa h;obtain⟨u16,X,h⟩:=aa h;refine IH (Δ:=[.sl (z8.2 (Int.toNat e.1)) 3 Ti x,.sl z8.1 22 .val (nE z8.2 0 y7.2.2.2.2),.obj c 69 (.agg (.pair (.rep Tl e.2.1) (.pair (I e.2.2.1) (.eq (.int .u64 e.2.2.2)))))]) (F:=(nv z8.2 0 y7.2.2.2.2).eraseIdx (Int.toNat e.1)) (Z:=Value) (λi=>[(0,Pt c),(5,.eq z8.1),(6,.rep Tl r4.1),(7,I y7.2.2.2.1)]) (λi=>[.sl z8.1 22 .val (List.set (nE z8.2 0 y7.2.2.2.2) (Int.toNat e.1) i),.sl i 3 Ti (x++[u]),.obj c 69 (.agg (.pair (.rep Tl e.2.1) (.pair (I e.2.2.1) (.eq (.int .u64 e.2.2.2)))))]) (λS w=>?_) (λl=>?_)
     .refine rj ?_;refine bN rfl rfl rfl (bG rfl) ⟨rfl,trivial⟩ ?_;refine bN rfl rfl rfl (bG rfl) ⟨rfl,trivial⟩ ?_;refine bN rfl rfl rfl (bG rfl) ⟨rfl,trivial⟩ ?_;refine bN rfl rfl rfl (bG rfl) ⟨rfl,trivial⟩ ?_;refine gU 1 rfl rfl rfl rfl (bX (t:=.val) rfl qX iF (s8 s)) ⟨rfl,rfl,trivial⟩ ?_;refine gU 1 rfl rfl rfl rfl (f8 (i:=Int.toNat e.1) (off:=0) rfl iF (λ_=>rfl) rfl (dw (s8 s)).2.2 rfl) ⟨rfl,trivial⟩ ?_;refine bN rfl rfl rfl (bG rfl) ⟨rfl,trivial⟩ ?_;refine bN rfl rfl rfl (bG rfl) ⟨rfl,trivial⟩ ?_;refine bN rfl rfl rfl (aY (t:=Ti) rfl iv cL O) ⟨rfl,rfl,trivial⟩ ?_;refine bN rfl rfl rfl (au (t:=Ti) rfl cL rfl) ⟨rfl,trivial⟩ ?_;refine bN rfl rfl rfl (bg (t:=Ti) [(.tmp 37,_)] [u] rfl rfl dR (.cons rfl .int .nil) rfl rfl) ⟨rfl,trivial⟩ ?_;refine IP 0 rfl (λv=>[.sl v 3 Ti (x++[u])]) (λ_=>rfl) rfl rfl rfl (cN rfl rfl dR (am X)) ⟨rfl,rfl,trivial⟩ ?_;refine uS 12 [true,true,true,true,true,true,true,true,true,true,true,true] [40] [] [] rfl (by kernel_rfl) (by kernel_rfl) (by kernel_rfl) ew (λvs hv hB=>?_);obtain⟨w0,UM,rfl,Uu⟩:=ax hv;obtain⟨w1,UL,rfl,Ut⟩:=ax Uu;obtain⟨w2,UK,rfl,Us⟩:=ax Ut;obtain⟨w3,UJ,rfl,Ur⟩:=ax Us;obtain⟨w4,UI,rfl,Up⟩:=ax Ur;obtain⟨w5,UH,rfl,Uo⟩:=ax Up;obtain⟨w6,UG,rfl,Un⟩:=ax Uo;obtain⟨w7,UF,rfl,zz⟩:=ax Un;obtain⟨w8,UE,rfl,qt⟩:=ax zz;obtain⟨w9,UC,rfl,J⟩:=ax qt;obtain⟨UD,UB,rfl,E⟩:=ax J;obtain⟨l,UA,rfl,D⟩:=ax E;obtain rfl:=qK D;refine⟨[0,1,2],[.sl z8.1 22 .val (nE z8.2 0 y7.2.2.2.2),.obj c 69 (.agg (.pair (.rep Tl e.2.1) (.pair (I e.2.2.1) (.eq (.int .u64 e.2.2.2))))),.sl l 3 Ti (x++[u])],by kernel_rfl,by decide,?_⟩;refine uO rfl rfl rfl rfl (bX (t:=.val) rfl qX iF (s8 s)) ⟨rfl,rfl,trivial⟩ (by kernel_rfl) ?_;refine rf 2 rfl ?_;refine OO λo18=>?_;refine rf 1 rfl ?_;refine sH rfl rfl (fD (i:=Int.toNat e.1) rfl iF rfl (lR (s8 s)) rfl (.val o18) o18) ⟨rfl,rfl,trivial⟩ (by kernel_rfl) ?_;refine xX ?_;refine bU (SE.fin (Γ':=[(0,Pt c),(5,.eq z8.1),(6,.rep Tl r4.1),(7,I y7.2.2.2.1)]) (Δ':=[.sl z8.1 22 .val (List.set (nE z8.2 0 y7.2.2.2.2) (Int.toNat e.1) l),.sl l 3 Ti (x++[u]),.obj c 69 (.agg (.pair (.rep Tl e.2.1) (.pair (I e.2.2.1) (.eq (.int .u64 e.2.2.2)))))]) [0,1,2] ⟨rfl,rfl,rfl,rfl,trivial⟩ rfl) ?_;exact λa w st=>⟨rfl,(l),(SE.fin (Γ':=[(0,Pt c),(5,.eq z8.1),(6,.rep Tl r4.1),(7,I y7.2.2.2.1)]) (Δ':=[.sl z8.1 22 .val (List.set (nE z8.2 0 y7.2.2.2.2) (Int.toNat e.1) l),.sl l 3 Ti (x++[u]),.obj c 69 (.agg (.pair (.rep Tl e.2.1) (.pair (I e.2.2.1) (.eq (.int .u64 e.2.2.2)))))]) [0,1,2] ⟨rfl,rfl,rfl,rfl,trivial⟩ rfl) a w st⟩
     .show JN _ _ [(0,Pt c),(5,.eq z8.1),(6,.rep Tl r4.1),(7,I y7.2.2.2.1)] ([.sl z8.1 22 .val (List.set (nE z8.2 0 y7.2.2.2.2) (Int.toNat e.1) l),.sl l 3 Ti (x++[u]),.obj c 69 (.agg (.pair (.rep Tl e.2.1) (.pair (I e.2.2.1) (.eq (.int .u64 e.2.2.2)))))]++(nv z8.2 0 y7.2.2.2.2).eraseIdx (Int.toNat e.1));refine bq 1 rfl ?_;refine bU (BE (pre:=[.obj c 69 (.agg (.pair (.rep Tl e.2.1) (.pair (I e.2.2.1) (.eq (.int .u64 e.2.2.2)))))]) (z:=z8) (i:=Int.toNat e.1) (CG s).2) ?_;refine bn ?_;exact uQ ((z8.1,AD z8.2 (Int.toNat e.1) l),(e.2.1,e.2.2.1,e.2.2.2,List.set y7.2.2.2.2 (Int.toNat e.1) (x++[u]))) h (kD [.obj c 69 (.agg (.pair (.rep Tl e.2.1) (.pair (I e.2.2.1) (.eq (.int .u64 e.2.2.2)))))] (wY 22 (z8.1,AD z8.2 (Int.toNat e.1) l) (List.set y7.2.2.2.2 (Int.toNat e.1) (x++[u]))) [0] ⟨rfl,rfl,rfl,rfl,trivial⟩ rfl)
   .refine ab (mq ?_);obtain⟨mc,M,h⟩:=aa h;refine jb (bu rfl M) ?_;refine aq (nl ?_);exact uQ (y,(x9.1,x9.2.1,x9.2.2.1,mc,x9.2.2.2)) h (kD [.obj c 69 (.agg (.pair (.rep Tl x9.1) (.pair (I x9.2.1) (.eq (.int .u64 x9.2.2.1)))))] (wY 22 y x9.2.2.2) [0] ⟨rfl,rfl,rfl,rfl,trivial⟩ rfl)
  .refine xa ?_;exact uQ (z8,(y7.1,y7.2.1,y7.2.2.1,y7.2.2.2.2)) h (kD [.obj c 69 (.agg (.pair (.rep Tl y7.1) (.pair (I y7.2.1) (.eq (.int .u64 y7.2.2.1)))))] (wY 22 z8 y7.2.2.2.2) [0] ⟨rfl,trivial⟩ rfl)
 .
  refine sr (mq ?_);refine aq (nt (aA ?_));refine bU (Ix (pre:=[.obj c 69 (.agg (.pair (.rep Tl x5.1) (.pair (I x5.2.1) (.eq (.int .u64 x5.2.2.1)))))])) ?_;refine bU (jp [4,5,41] ⟨rfl,rfl,rfl,trivial⟩) ?_;cases h;exact aO () [_] 1 ⟨rfl,trivial⟩ rfl
def fu(k:Nat)(r2:Int×bO):Nat->((List Int)×Int×Int×(List (List (List Int)))×Int)->Option ((List (List (List Int)))×(List Int)×Int×Int)
 |0,_=>none
 |n+1,c=>
  if 0 < c.2.2.2.2 then(((((if 0 < (c.2.2.2.1.length:Int) then((fh k (c.1,c.2.1,c.2.2.1) 3).bind λl=>
  some (l.2.1,l.2.2.1,l.2.2.2,l.1)) else(some (c.1,c.2.1,c.2.2.1,false))):Option ((List Int)×Int×Int×Bool)).bind λe=>
  if e.2.2.2=true then((ck ((c.2.2.2.1.length:Int) - 1)).bind λx=>
  (aQ c.2.2.2.1 x).bind λu=>
  (gZ k u).bind λr=>
  (cK (cf (length c.2.2.2.1+length [r]))).bind λ_=>
  some (e.1,e.2.1,e.2.2.1,c.2.2.2.1++[r])) else((jJ k (e.1,e.2.1,e.2.2.1) r2.1).bind λh=>
  (cK (cf (length c.2.2.2.1+length [h.1]))).bind λ_=>
  some (h.2.1,h.2.2.1,h.2.2.2,c.2.2.2.1++[h.1]))):Option ((List Int)×Int×Int×(List (List (List Int))))).bind λj=>
  (ck (c.2.2.2.2 - 1)).bind λs=>
  fu k r2 n (j.1,j.2.1,j.2.2.1,j.2.2.2,s)) else(some (c.2.2.2.1,c.1,c.2.1,c.2.2.1))
def jK(k:Nat)(a0:bO)(a1:Int)(a2:Int):Option (ae×bO):=
 (fF k (a0.1,a0.2.1,a0.2.2) 1 a1).bind λr2=>
 (cu k (r2.2.1,r2.2.2.1,r2.2.2.2) 3).bind λr3=>
 (gy k (r3.2.1,r3.2.2.1,r3.2.2.2) [0,1,1,2,r3.1]).bind λr4=>
 (cu k (r4.2.1,r4.2.2.1,r4.2.2.2) 3).bind λr5=>
 (gy k (r5.2.1,r5.2.2.1,r5.2.2.2) [0,1,2,r5.1]).bind λr6=>
 (fF k (r6.2.1,r6.2.2.1,r6.2.2.2) 1 3).bind λr7=>
 (gy k (r7.2.1,r7.2.2.1,r7.2.2.2) [1,2,r7.1]).bind λr8=>
 (((fF k (r8.2.1,r8.2.2.1,r8.2.2.2) 1 a2).bind λe=>
 fu k r2 k (e.2.1,e.2.2.1,e.2.2.2,([]:(List (List (List Int)))),e.1)):Option ((List (List (List Int)))×(List Int)×Int×Int)).bind λc=>
 some ((r2.1,r4.1,r6.1,r8.1,c.1,[]),(c.2.1,c.2.2.1,c.2.2.2))
theorem ul(k:Nat)(a0:bO)(c:Nat)(a1:Int)(a2:Int)(r:ae×bO)(h:jK k a0 a1 a2=some r):
 dH Tryz.prog 27 [Pt c,I a1,I a2] [.obj c 69 (.agg (.pair (.rep Tl a0.1) (.pair (I a0.2.1) (.eq (.int .u64 a0.2.2)))))] (λ_:Unit=>(bI [.agg (.pair (I r.1.1) (.pair (I r.1.2.1) (.pair (I r.1.2.2.1) (.pair (I r.1.2.2.2.1) (.pair (.rep (.slice (.slice Tl)) r.1.2.2.2.2.1) (.eq (.slice none 0 0)))))))],[.obj c 69 (.agg (.pair (.rep Tl r.2.1) (.pair (I r.2.2.1) (.eq (.int .u64 r.2.2.2)))))])):=by
 unfold jK at h
 replace h:=bi h
 refine dH.of 67 Tryz.func27 rfl Tryz.ntmps27 rfl λS w0=>?_
 refine sr ?_
 refine aX rfl rfl rfl (bo rfl yh EJ) trivial λb1=>?_
 refine nt ?_
 refine sr ?_
 iterate 2 refine mq ?_
 obtain⟨r2,UA,h⟩:=aa h
 have UH:=iS k (a0.1,a0.2.1,a0.2.2) c 1 a1 r2 UA
 refine fr 1 ?_
 refine kc (av [.tmp 10,.const (.int .i64 (1)),.tmp 11] rfl rfl KX rfl UH) ?_
 iterate 2 refine mq ?_
 obtain⟨r3,Uz,h⟩:=aa h
 have UG:=cF k (r2.2.1,r2.2.2.1,r2.2.2.2) c 3 r3 Uz
 refine kb (av [.tmp 14,.const (.int .i64 (3))] rfl rfl vv rfl UG) ?_
 refine bY rfl (bg (t:=Ti) [(.const (.int .i64 (0)),_),(.const (.int .i64 (1)),_),(.const (.int .i64 (1)),_),(.const (.int .i64 (2)),_),(.tmp 15,_)] [0,1,1,2,r3.1] rfl rfl dR (.cons rfl .int (.cons rfl .int (.cons rfl .int (.cons rfl .int (.cons rfl .int .nil))))) rfl rfl) ⟨rfl,rfl,rfl,rfl,rfl,trivial⟩ ?_
 obtain⟨r4,Uy,h⟩:=aa h
 have UF:=lj k (r3.2.1,r3.2.2.1,r3.2.2.2) c [0,1,1,2,r3.1] r4 Uy
 refine kb (av [.tmp 13,.tmp 16] rfl rfl Om rfl UF) ?_
 iterate 2 refine mq ?_
 obtain⟨r5,Ux,h⟩:=aa h
 have UE:=cF k (r4.2.1,r4.2.2.1,r4.2.2.2) c 3 r5 Ux
 refine kb (av [.tmp 19,.const (.int .i64 (3))] rfl rfl vv rfl UE) ?_
 refine bY rfl (bg (t:=Ti) [(.const (.int .i64 (0)),_),(.const (.int .i64 (1)),_),(.const (.int .i64 (2)),_),(.tmp 20,_)] [0,1,2,r5.1] rfl rfl dR (.cons rfl .int (.cons rfl .int (.cons rfl .int (.cons rfl .int .nil)))) rfl rfl) ⟨rfl,rfl,rfl,rfl,trivial⟩ ?_
 obtain⟨r6,Uw,h⟩:=aa h
 have UD:=lj k (r5.2.1,r5.2.2.1,r5.2.2.2) c [0,1,2,r5.1] r6 Uw
 refine kb (av [.tmp 18,.tmp 21] rfl rfl Om rfl UD) ?_
 iterate 2 refine mq ?_
 obtain⟨r7,Uu,h⟩:=aa h
 have UC:=iS k (r6.2.1,r6.2.2.1,r6.2.2.2) c 1 3 r7 Uu
 refine kc (av [.tmp 24,.const (.int .i64 (1)),.const (.int .i64 (3))] rfl rfl KX rfl UC) ?_
 refine jc (bg (t:=Ti) [(.const (.int .i64 (1)),_),(.const (.int .i64 (2)),_),(.tmp 25,_)] [1,2,r7.1] rfl rfl dR (.cons rfl .int (.cons rfl .int (.cons rfl .int .nil))) rfl rfl) ?_
 obtain⟨r8,Ut,h⟩:=aa h
 have UB:=lj k (r7.2.1,r7.2.2.1,r7.2.2.2) c [1,2,r7.1] r8 Ut
 refine kb (av [.tmp 23,.tmp 26] rfl rfl Om rfl UB) ?_
 refine bY rfl (dY [(0,.tmp 12,_),(1,.tmp 17,_),(2,.tmp 22,_),(3,.tmp 27,_)] rfl PL yh MQ (jC ⟨rfl,rfl,rfl,rfl,trivial⟩) rfl) ⟨rfl,rfl,rfl,rfl,trivial⟩ ?_
 refine aX rfl rfl rfl (bo rfl yh EJ) trivial λb9=>?_
 refine aP rfl rfl (aM rfl im trivial rfl rfl) ⟨rfl,rfl,trivial⟩ ?_
 refine nt ?_
 refine aG (Z:=Value) (α:=(List (List (List Int)))×(List Int)×Int×Int) (λJ y=>[(6,Pt b1),(7,Pt b9)]) (λJ y=>[.obj b1 26 (.agg (.pair (I 0) (.pair (I 0) (.pair (I 0) (.pair (I 0) (.pair (.eq (.slice none 0 0)) (.eq (.slice none 0 0)))))))),.obj b9 26 (.agg (.pair (I r2.1) (.pair (I r4.1) (.pair (I r6.1) (.pair (I r8.1) (.pair (.eq J) (.eq (.slice none 0 0)))))))),.sl J 30 (.slice Tl) y.1,.obj c 69 (.agg (.pair (.rep Tl y.2.1) (.pair (I y.2.2.1) (.eq (.int .u64 y.2.2.2)))))]) h (λK h=>?_) (λJ y h=>?_)
 .
  refine sr ?_;iterate 2 refine mq ?_
  obtain⟨F,zz,h⟩:=aa h;refine fr 1 ?_;refine kc (av [.tmp 29,.const (.int .i64 (1)),.tmp 30] rfl rfl KX rfl (iS k (r8.2.1,r8.2.2.1,r8.2.2.2) c 1 a2 F zz)) ?_;refine aq (nt (aj ?_));refine jd (SE.nil 30 (.slice Tl)) ?_;refine aE (λu e=>[(0,Pt c),(6,Pt b1),(7,Pt b9),(8,I e.2.2.2.2)]) (λu e=>[.obj c 69 (.agg (.pair (.rep Tl e.1) (.pair (I e.2.1) (.eq (.int .u64 e.2.2.1))))),.obj b1 26 (.agg (.pair (I 0) (.pair (I 0) (.pair (I 0) (.pair (I 0) (.pair (.eq (.slice none 0 0)) (.eq (.slice none 0 0)))))))),.obj b9 26 (.agg (.pair (I r2.1) (.pair (I r4.1) (.pair (I r6.1) (.pair (I r8.1) (.pair (.eq u) (.eq (.slice none 0 0)))))))),.sl u 30 (.slice Tl) e.2.2.2.1]) (fu k r2) k (.slice none 0 0) (F.2.1,F.2.2.1,F.2.2.2,([]:(List (List (List Int)))),F.1) (λ_=>rfl) h (SE.fin [1,3,2,0] ⟨rfl,rfl,rfl,rfl,trivial⟩ rfl) (λn u e h=>?_);unfold fu at h;refine ak (sr (mq ?_));refine jb (ml rfl) ?_;refine nt (ci h (λh=>?_) (λh=>?_))
  .refine sk (aG (Z:=Value) (α:=(List Int)×Int×Int×(List (List (List Int)))) (λD l=>[(0,Pt c),(6,Pt b1),(7,Pt b9),(8,I e.2.2.2.2)]) (λD l=>[.obj c 69 (.agg (.pair (.rep Tl l.1) (.pair (I l.2.1) (.eq (.int .u64 l.2.2.1))))),.obj b1 26 (.agg (.pair (I 0) (.pair (I 0) (.pair (I 0) (.pair (I 0) (.pair (.eq (.slice none 0 0)) (.eq (.slice none 0 0)))))))),.obj b9 26 (.agg (.pair (I r2.1) (.pair (I r4.1) (.pair (I r6.1) (.pair (I r8.1) (.pair (.eq D) (.eq (.slice none 0 0)))))))),.sl D 30 (.slice Tl) l.2.2.2]) h (λK h=>?_) (λD l h=>?_))
   .refine aj (ak (sr (fl eI ?_)));refine fr 2 ?_;refine lo lC ?_;refine fr 3 ?_;refine ka (kH rfl rfl Aj) ?_;refine aq (nt ?_);refine aG (Z:=Unit) (α:=(List Int)×Int×Int×Bool) (λQ j=>[(0,Pt c),(6,Pt b1),(7,Pt b9),(8,I e.2.2.2.2),(9,I (e.2.2.2.1.length:Int)),(44,.eq (.bool j.2.2.2))]) (λQ j=>[.obj c 69 (.agg (.pair (.rep Tl j.1) (.pair (I j.2.1) (.eq (.int .u64 j.2.2.1))))),.obj b1 26 (.agg (.pair (I 0) (.pair (I 0) (.pair (I 0) (.pair (I 0) (.pair (.eq (.slice none 0 0)) (.eq (.slice none 0 0)))))))),.obj b9 26 (.agg (.pair (I r2.1) (.pair (I r4.1) (.pair (I r6.1) (.pair (I r8.1) (.pair (.eq u) (.eq (.slice none 0 0)))))))),.sl u 30 (.slice Tl) e.2.2.2.1]) h (λK h=>?_) (λQ j h=>?_)
    .refine ab (mq ?_);refine jb (ml rfl) ?_;refine mq ?_;refine cT (s:=41) rfl (λhb=>?_) (λhb=>?_)
     .replace h:=fR (wu hb) h;refine gm ?_;obtain⟨E,qt,h⟩:=aa h;refine fr 2 ?_;refine nh rfl rfl rfl rfl rfl rfl (av [.tmp 42,.const (.int .i64 (3))] rfl rfl Ol rfl (jk k (e.1,e.2.1,e.2.2.1) c 3 E qt)) ⟨rfl,rfl,trivial⟩ ?_;refine pt (nl ?_);exact jz ((),(E.2.1,E.2.2.1,E.2.2.2,E.1)) h [0,3,2,1]
     .replace h:=dr (wv hb) h;iterate 2 refine gn ?_
      refine pf (nl ?_);exact jz ((),(e.1,e.2.1,e.2.2.1,false)) h [2,3,1,0]
    .refine cv h (λh=>?_) (λh=>?_)
     .refine ak (cP ?_);refine da (aH rfl eI) ?_;refine ea 2 (ay rfl lC pe rfl) ?_;refine da (aH rfl eI) ?_;refine ea 2 (ay rfl lC pe rfl) ?_;refine dm ?_;obtain⟨Up,X,h⟩:=aa h;refine db (eF rfl X) ?_;obtain⟨Uo,M,h⟩:=aa h;refine eb 3 (bX (t:=(.slice Tl)) rfl Aj yC M) ?_;refine ea 3 (f8 (i:=Int.toNat Up) (off:=0) rfl yC (λ_=>rfl) rfl (dw M).2.2 rfl) ?_;obtain⟨O,mw,h⟩:=aa h;refine da (Dl (av [.tmp 52] rfl rfl SN rfl (sa k Uo O mw))) ?_;refine da (bg (t:=(.slice Tl)) [(.tmp 53,_)] [O] rfl rfl AC (.cons rfl .rep .nil) rfl rfl) ?_;refine df ew ?_;obtain⟨UJ,gw,h⟩:=aa h;refine fr 3 ?_;refine eK rfl rfl rfl (cN rfl rfl AC (am gw)) ⟨rfl,rfl,trivial⟩ λUs=>?_;refine fl eI ?_;refine sJ λo25=>?_;refine fr 3 ?_;refine aP rfl rfl (aM rfl lC o25 rfl rfl) ⟨rfl,rfl,trivial⟩ ?_;refine nt (fV (bR (c8 (an ?_))));exact jz (Us,(j.1,j.2.1,j.2.2.1,e.2.2.2.1++[O])) h [2,3,0,1]
     .refine sk (cP ?_);refine da (aH rfl eI) ?_;refine ea 2 (ay rfl lC pe rfl) ?_;refine dm ?_;refine da (aH rfl gA) ?_;refine ea 2 (ay rfl cL pe rfl) ?_;obtain⟨x,mc,h⟩:=aa h;refine Dz 0 rfl rfl rfl rfl (av [.tmp 59,.tmp 61] rfl rfl SL rfl (uj k (j.1,j.2.1,j.2.2.1) c r2.1 x mc)) ⟨rfl,rfl,trivial⟩ ?_;refine da (bg (t:=(.slice Tl)) [(.tmp 62,_)] [x.1] rfl rfl AC (.cons rfl .rep .nil) rfl rfl) ?_;refine DC (Δ':=[.obj b1 26 (.agg (.pair (I 0) (.pair (I 0) (.pair (I 0) (.pair (I 0) (.pair (.eq (.slice none 0 0)) (.eq (.slice none 0 0)))))))),.obj b9 26 (.agg (.pair (I r2.1) (.pair (I r4.1) (.pair (I r6.1) (.pair (I r8.1) (.pair (.eq u) (.eq (.slice none 0 0)))))))),.sl u 30 (.slice Tl) e.2.2.2.1,.obj c 69 (.agg (.pair (.rep Tl x.2.1) (.pair (I x.2.2.1) (.eq (.int .u64 x.2.2.2)))))]) (by kernel_rfl) ew (by kernel_rfl) ?_;obtain⟨UI,Y,h⟩:=aa h;refine fr 2 ?_;refine eK rfl rfl rfl (cN rfl rfl AC (am Y)) ⟨rfl,rfl,trivial⟩ λUr=>?_;refine fl eI ?_;refine sJ λo29=>?_;refine fr 2 ?_;refine aP rfl rfl (aM rfl lC o29 rfl rfl) ⟨rfl,rfl,trivial⟩ ?_;refine aC (bn ?_);exact jz (Ur,(x.2.1,x.2.2.1,x.2.2.2,e.2.2.2.1++[x.1])) h [3,2,0,1]
   .refine ab (mq ?_);obtain⟨Un,U,h⟩:=aa h;refine jb (eF rfl U) ?_;refine aq (nl ?_);exact jz (D,(l.1,l.2.1,l.2.2.1,l.2.2.2,Un)) h [0,1,2,3]
  .refine xa ?_;exact jz (u,(e.2.2.2.1,e.1,e.2.1,e.2.2.1)) h [1,2,3,0]
 .
  refine sr (fr 1 ?_);refine fr 2 ?_;refine fg (nf (off:=4) [] trivial rfl rfl) ?_;refine lo im ?_;refine fr 1 ?_;refine aP rfl rfl (aM rfl im trivial rfl rfl) ⟨rfl,rfl,trivial⟩ ?_;refine nt (aA (bU (SE.fin (Γ':=[(6,_)]) [2,0,1] ⟨rfl,trivial⟩ rfl) ?_));cases h;exact aO () [.agg (.pair (I r2.1) (.pair (I r4.1) (.pair (I r6.1) (.pair (I r8.1) (.pair (.rep (.slice (.slice Tl)) y.1) (.eq (.slice none 0 0)))))))] 1 ⟨⟨_,_,_,_,_,rfl,(.tail _ (.head _)),im,(tj),rfl⟩,trivial⟩ rfl
def eo(k:Nat)(r2:ae×bO):Nat->((List Int)×Int×Int×(List bF)×Int)->Option ((List bF)×(List Int)×Int×Int)
 |0,_=>none
 |n+1,y7=>
  if 0 < y7.2.2.2.2 then((gY k (y7.1,y7.2.1,y7.2.2.1) (r2.1.1,r2.1.2.1,r2.1.2.2.1,r2.1.2.2.2.1,r2.1.2.2.2.2.1,())).bind λr9=>
  (cK (cf (length y7.2.2.2.1+length [r9.1]))).bind λ_=>
  (ck (y7.2.2.2.2 - 1)).bind λc=>
  eo k r2 n (r9.2.1,r9.2.2.1,r9.2.2.2,y7.2.2.2.1++[r9.1],c)) else(some (y7.2.2.2.1,y7.1,y7.2.1,y7.2.2.1))
def f9(k:Nat)(a0:bO)(a1:Int)(a2:Int):Option (ae×bO):=
 (jK k (a0.1,a0.2.1,a0.2.2) a1 a2).bind λr2=>
 (((cu k (r2.2.1,r2.2.2.1,r2.2.2.2) 4).bind λr6=>
 eo k r2 k (r6.2.1,r6.2.2.1,r6.2.2.2,([]:(List bF)),r6.1)):Option ((List bF)×(List Int)×Int×Int)).bind λx4=>
 some ((r2.1.1,r2.1.2.1,r2.1.2.2.1,r2.1.2.2.2.1,r2.1.2.2.2.2.1,x4.1),(x4.2.1,x4.2.2.1,x4.2.2.2))
theorem rY(k:Nat)(a0:bO)(c:Nat)(a1:Int)(a2:Int)(r:ae×bO)(h:f9 k a0 a1 a2=some r):
 dH Tryz.prog 10 [Pt c,I a1,I a2] [.obj c 69 (.agg (.pair (.rep Tl a0.1) (.pair (I a0.2.1) (.eq (.int .u64 a0.2.2)))))] (λ_:Unit=>(bI [.rep ap r.1],[.obj c 69 (.agg (.pair (.rep Tl r.2.1) (.pair (I r.2.2.1) (.eq (.int .u64 r.2.2.2)))))])):=by
 unfold f9 at h
 replace h:=bi h
 refine dH.of 28 Tryz.func10 rfl Tryz.ntmps10 rfl λS w0=>?_
 refine sr ?_
 refine aX rfl rfl rfl (bo rfl yh EJ) trivial λb1=>?_
 refine nt ?_
 refine sr ?_
 iterate 3 refine mq ?_
 obtain⟨r2,D,h⟩:=aa h
 have E:=ul k (a0.1,a0.2.1,a0.2.2) c a1 a2 r2 D
 refine fr 1 ?_
 refine kc (av [.tmp 9,.tmp 10,.tmp 11] rfl rfl S7 rfl E) ?_
 refine aX rfl rfl rfl (bo rfl yh EJ) trivial λb3=>?_
 refine aP rfl rfl (aM rfl im trivial rfl rfl) ⟨rfl,rfl,trivial⟩ ?_
 refine nt ?_
 refine aG (Z:=Value) (α:=(List bF)×(List Int)×Int×Int) (λz5 x4=>[(6,Pt b1),(7,Pt b3)]) (λz5 x4=>[.obj b1 26 (.agg (.pair (I 0) (.pair (I 0) (.pair (I 0) (.pair (I 0) (.pair (.eq (.slice none 0 0)) (.eq (.slice none 0 0)))))))),.obj b3 26 (.agg (.pair (I r2.1.1) (.pair (I r2.1.2.1) (.pair (I r2.1.2.2.1) (.pair (I r2.1.2.2.2.1) (.pair (.rep (.slice (.slice Tl)) r2.1.2.2.2.2.1) (.eq z5))))))),.sl z5 59 bb x4.1,.obj c 69 (.agg (.pair (.rep Tl x4.2.1) (.pair (I x4.2.2.1) (.eq (.int .u64 x4.2.2.2)))))]) h (λK h=>?_) (λz5 x4 h=>?_)
 .
  refine sr (mq ?_);obtain⟨r6,y,h⟩:=aa h;refine fr 1 ?_;refine kb (av [.tmp 13,.const (.int .i64 (4))] rfl rfl vv rfl (cF k (r2.2.1,r2.2.2.1,r2.2.2.2) c 4 r6 y)) ?_;refine aq (nt (aj ?_));refine jd (SE.nil 59 bb) ?_;refine aE (λz8 y7=>[(0,Pt c),(6,Pt b1),(7,Pt b3),(8,I y7.2.2.2.2)]) (λz8 y7=>[.obj c 69 (.agg (.pair (.rep Tl y7.1) (.pair (I y7.2.1) (.eq (.int .u64 y7.2.2.1))))),.obj b1 26 (.agg (.pair (I 0) (.pair (I 0) (.pair (I 0) (.pair (I 0) (.pair (.eq (.slice none 0 0)) (.eq (.slice none 0 0)))))))),.obj b3 26 (.agg (.pair (I r2.1.1) (.pair (I r2.1.2.1) (.pair (I r2.1.2.2.1) (.pair (I r2.1.2.2.2.1) (.pair (.rep (.slice (.slice Tl)) r2.1.2.2.2.2.1) (.eq z8))))))),.sl z8 59 bb y7.2.2.2.1]) (eo k r2) k (.slice none 0 0) (r6.2.1,r6.2.2.1,r6.2.2.2,([]:(List bF)),r6.1) (λ_=>rfl) h (SE.fin [1,3,2,0] ⟨rfl,rfl,rfl,rfl,trivial⟩ rfl) (λn z8 y7 h=>?_);unfold eo at h;refine ak (sr (mq ?_));refine jb (ml rfl) ?_;refine nt (ci h (λh=>?_) (λh=>?_))
  .refine sk (ak (aj (cP ?_)));refine da (aH rfl uv) ?_;refine ea 2 (ay rfl FU pe rfl) ?_;refine dm ?_;refine ea 2 (ay rfl im (tj) rfl) ?_;obtain⟨r9,u,h⟩:=aa h;refine Dz 0 rfl rfl rfl rfl (bT (N:=[(.tmp 21,Pt c),(.tmp 22,.agg (.pair (I r2.1.1) (.pair (I r2.1.2.1) (.pair (I r2.1.2.2.1) (.pair (I r2.1.2.2.2.1) (.pair (.rep (.slice (.slice Tl)) r2.1.2.2.2.2.1) (.eq z8)))))))]) (av [.tmp 21,.tmp 22] rfl rfl SZ rfl (rZ k (y7.1,y7.2.1,y7.2.2.1) c (r2.1.1,r2.1.2.1,r2.1.2.2.1,r2.1.2.2.2.1,r2.1.2.2.2.2.1,()) r9 u)) λ_ _ _ hn=>⟨hn.1,(Ls (t:=(.pair Ti (.pair Ti (.pair Ti (.pair Ti (.pair (.slice (.slice Tl)) .ign)))))) (x:=(r2.1.1,r2.1.2.1,r2.1.2.2.1,r2.1.2.2.2.1,r2.1.2.2.2.2.1,())) (oy (jr .int) (oy (jr .int) (oy (jr .int) (oy (jr .int) (oy (jr .rep) LX))))) hn.2.1),trivial⟩) ⟨rfl,rfl,trivial⟩ ?_;refine da (bg (t:=bb) [(.tmp 23,_)] [r9.1] rfl rfl Jw (.cons rfl .rep .nil) rfl rfl) ?_;refine DC (Δ':=[.obj b1 26 (.agg (.pair (I 0) (.pair (I 0) (.pair (I 0) (.pair (I 0) (.pair (.eq (.slice none 0 0)) (.eq (.slice none 0 0)))))))),.obj b3 26 (.agg (.pair (I r2.1.1) (.pair (I r2.1.2.1) (.pair (I r2.1.2.2.1) (.pair (I r2.1.2.2.2.1) (.pair (.rep (.slice (.slice Tl)) r2.1.2.2.2.2.1) (.eq z8))))))),.sl z8 59 bb y7.2.2.2.1,.obj c 69 (.agg (.pair (.rep Tl r9.2.1) (.pair (I r9.2.2.1) (.eq (.int .u64 r9.2.2.2)))))]) (by kernel_rfl) ew (by kernel_rfl) ?_;obtain⟨F,j,h⟩:=aa h;refine fr 2 ?_;refine eK rfl rfl rfl (cN rfl rfl Jw (am j)) ⟨rfl,rfl,trivial⟩ λs=>?_;refine fl uv ?_;refine sJ λo12=>?_;refine fr 2 ?_;refine aP rfl rfl (aM rfl FU o12 rfl rfl) ⟨rfl,rfl,trivial⟩ ?_;refine aC (aR (tn (ab (mq ?_))));obtain⟨l,e,h⟩:=aa h;refine jb (eF rfl e) ?_;refine aq (nl ?_);exact jz (s,(r9.2.1,r9.2.2.1,r9.2.2.2,y7.2.2.2.1++[r9.1],l)) h [3,2,0,1]
  .refine xa ?_;exact jz (z8,(y7.2.2.2.1,y7.1,y7.2.1,y7.2.2.1)) h [1,2,3,0]
 .
  refine sr (fr 1 ?_);refine fr 2 ?_;refine fg (nf (off:=5) [] trivial rfl rfl) ?_;refine lo im ?_;refine fr 1 ?_;refine aP rfl rfl (aM rfl im trivial rfl rfl) ⟨rfl,rfl,trivial⟩ ?_;refine nt (aA (bU (ik (a:=.agg (.pair (I r2.1.1) (.pair (I r2.1.2.1) (.pair (I r2.1.2.2.1) (.pair (I r2.1.2.2.2.1) (.pair (.rep (.slice (.slice Tl)) r2.1.2.2.2.2.1) (Rs bb x4.1))))))) (a':=.rep ap (r2.1.1,r2.1.2.1,r2.1.2.2.1,r2.1.2.2.2.1,r2.1.2.2.2.2.1,x4.1)) (jr (.agg (.pair .int (.pair .int (.pair .int (.pair .int (.pair .rep .rep)))))))) ?_));refine bU (SE.fin (Γ':=[(6,_)]) [2,0,1] ⟨rfl,trivial⟩ rfl) ?_;cases h;exact aO () [.rep ap (r2.1.1,r2.1.2.1,r2.1.2.2.1,r2.1.2.2.2.1,r2.1.2.2.2.2.1,x4.1)] 1 ⟨⟨_,_,_,_,_,rfl,(.tail _ (.head _)),im,(tj),rfl⟩,trivial⟩ rfl
def eV(k:Nat)(a0:ae)(a1:(List Int)):Nat->(Int×Int)->Option (Except ((Option ae)×Int×Int) Int)
 |0,_=>none
 |n+1,y5=>
  if y5.2 < (a1.length:Int) then((aQ a1 y5.2).bind λx7=>
  (ck (a0.1 - 1)).bind λx8=>
  (dE k x7 0 x8).bind λr9=>
  if¬(r9=true) then(some (.error (none,0,3))) else(((if 0 < y5.2 then((ck (y5.2 - 1)).bind λh=>
  (aQ a1 h).bind λe=>
  some (decide (x7≤e))) else(some false)):Option (Bool)).bind λj=>
  if j=true then(some (.error (none,0,5))) else((eS k y5.1 x7).bind λl=>
  (ck (y5.2+1)).bind λc=>
  eV k a0 a1 n (l,c)))) else(some (.ok y5.1))
def dz(k:Nat)(a0:ae)(h:Int)(e:(List Int)):Nat->Int->Option (Except ((Option ae)×Int×Int) Unit)
 |0,_=>none
 |n+1,c=>
  if c < (e.length:Int) then((aQ e c).bind λu=>
  (ck (a0.1 - 1)).bind λs=>
  (ck ((a0.2.2.2.2.1.length:Int) - 1)).bind λr=>
  (aQ [s,r,(a0.2.2.2.2.1.length:Int)] h).bind λl=>
  (dE k u 0 l).bind λx=>
  if¬(x=true) then(some (.error (none,0,3))) else((ck (c+1)).bind λj=>
  dz k a0 h e n j)) else(some (.ok ()))
def cO(k:Nat)(a0:ae)(a2:(List Int))(a3:(List Int))(a4:(List Int)):Nat->Int->Option (Except ((Option ae)×Int×Int) Unit)
 |0,_=>none
 |n+1,c=>
  if c < ([a2,a3,a4].length:Int) then(bE (α:=Unit) ((aQ [a2,a3,a4] c).bind λj=>
  dz k a0 c j k 0) (λe=>some (.error e)) λ_=>
  (ck (c+1)).bind λh=>
  cO k a0 a2 a3 a4 n h) else(some (.ok ()))
def jF(k:Nat)(a0:ae)(a1:(List Int))(a2:(List Int))(a3:(List Int))(a4:(List Int)):Option ((Option ae)×Int×Int):=
 (mr k a0).bind λr2=>
 if¬(r2=0) then(some (none,0,r2)) else(bE (α:=Int) (eV k a0 a1 k (0,0)) (some) λx3=>
 bE (α:=Unit) (cO k a0 a2 a3 a4 k 0) (some) λ_=>
 (iM k a0).bind λe=>
 fQ e (none) (λc=>(eu k c).bind λh=>
 some (some c,x3,0)))
theorem lM(k:Nat)(a0:ae)(a1:(List Int))(a2:(List Int))(a3:(List Int))(a4:(List Int))(r:(Option ae)×Int×Int)(h:jF k a0 a1 a2 a3 a4=some r):
 bW (dP Tryz.prog) 37 [.rep ap a0,.rep Tl a1,.rep Tl a2,.rep Tl a3,.rep Tl a4] [] (λz:Nat×Nat=>(bI [JH r.1 z.1,.eq (.int .u8 r.2.1),I r.2.2],JG r.1 λq=>qg q z.1 z.2 k)):=by
 unfold jF at h
 replace h:=bi h
 refine bW.of 95 Tryz.func37 rfl Tryz.ntmps37 rfl λS w0=>?_
 refine sr ?_
 refine bx λb1=>?_
 refine cq ?_
 refine cq ?_
 refine cq ?_
 refine nt ?_
 refine ak ?_
 refine sr ?_
 refine lo im ?_
 obtain⟨r2,UK,h⟩:=aa h
 have UL:=xh k a0 r2 UK
 refine ja (av [.tmp 22] rfl rfl SH rfl UL) ?_
 refine aq ?_
 refine nt ?_
 refine sr ?_
 refine mq ?_
 refine jb (eQ rfl) ?_
 refine nt ?_
 refine cn h (λh=>?_) (λh=>?_)
 .
  refine sr (mq ?_);refine cq ?_;refine cq ?_;refine aq (nt (rx ?_));cases h;exact aO (0,0) [.eq (.pointer none),_,_] 0 ⟨rfl,rfl,rfl,trivial⟩ rfl
 .
  refine sk (sr (cq (nt ?_)));refine du (Z:=Unit) (α:=Int) (λz4 x3=>[(2,.rep Tl a2),(3,.rep Tl a3),(4,.rep Tl a4),(5,Pt b1),(14,.eq (.int .u8 x3))]) (λz4 x3=>[.obj b1 26 (.rep ap a0)]) (λe=>e=r) h (λe h=>Option.some.inj h) (λK hR h=>?_) (λz4 x3 h=>?_)
  .refine sr (mq ?_);refine ol iv ?_;refine eG rfl ?_;refine nt (aj (aE (λz6 y5=>[(1,.rep Tl a1),(2,.rep Tl a2),(3,.rep Tl a3),(4,.rep Tl a4),(5,Pt b1),(14,.eq (.int .u8 y5.1)),(27,.rep Tl a1),(28,I (a1.length:Int)),(29,I y5.2)]) (λz6 y5=>[.obj b1 26 (.rep ap a0)]) (eV k a0 a1) k () (0,0) (λ_=>rfl) h (SE.fin [0] ⟨rfl,rfl,rfl,rfl,rfl,rfl,rfl,rfl,rfl,trivial⟩ rfl) (λn z6 y5 h=>?_)));unfold eV at h;refine sr (jb (bH rfl) ?_);refine nt (ak (ci h (λh=>?_) (λh=>?_)))
   .refine sk (ak (aj (sr (mq ?_))));obtain⟨x7,UI,h⟩:=aa h;refine jb (aY (t:=Ti) rfl iv cL UI) ?_;refine ja (au (t:=Ti) rfl cL rfl) ?_;refine aq ?_;refine aq (nt (ak (sr ?_)));refine mq ?_;refine fl gA ?_;refine lo cL ?_;obtain⟨x8,UH,h⟩:=aa h;refine jb (eF rfl UH) ?_;obtain⟨r9,UJ,h⟩:=aa h;refine jc (av [.tmp 34,.const (.int .i64 (0)),.tmp 37] rfl rfl xC rfl (dK k x7 0 x8 r9 UJ)) ?_;refine ja (iK rfl) ?_;refine nt (cw h (λh=>?_) (λh=>?_))
    .refine sr (cq ?_);refine cq ?_;refine cq (nt (rx (br (ba (aW ?_)))));obtain rfl:=hR _ h;exact aO (0,0) [.eq (.pointer none),_,_] 0 ⟨rfl,rfl,rfl,trivial⟩ rfl
    .refine sk (ak (aG (Z:=Unit) (α:=Bool) (λO y=>[(1,.rep Tl a1),(2,.rep Tl a2),(3,.rep Tl a3),(4,.rep Tl a4),(5,Pt b1),(14,.eq (.int .u8 y5.1)),(16,I x7),(27,.rep Tl a1),(28,I (a1.length:Int)),(29,I y5.2),(50,.eq (.bool y))]) (λO y=>[.obj b1 26 (.rep ap a0)]) h (λK h=>?_) (λO y h=>?_)))
     .refine ab (mq ?_);refine jb (ml rfl) ?_;refine mq ?_;refine cT (s:=42) rfl (λhb=>?_) (λhb=>?_)
      .replace h:=fR (wu hb) h;refine gm ?_;refine gm ?_;refine gm ?_;obtain⟨UO,Us,h⟩:=aa h;refine gb (eF rfl Us) ?_;obtain⟨UD,Ur,h⟩:=aa h;refine gb (aY (t:=Ti) rfl iv cL Ur) ?_;refine ga (au (t:=Ti) rfl cL rfl) ?_;refine gb (BX rfl) ?_;refine pt (nl ?_);exact jz ((),decide (x7≤UD)) h [0]
      .replace h:=dr (wv hb) h;iterate 7 refine gn ?_
       refine pf (nl ?_);exact jz ((),false) h [0]
     .refine cv h (λh=>?_) (λh=>?_)
      .refine sr (cq ?_);refine cq ?_;refine cq (nt (rx (br (ba (aW ?_)))));obtain rfl:=hR _ h;exact aO (0,0) [.eq (.pointer none),_,_] 0 ⟨rfl,rfl,rfl,trivial⟩ rfl
      .refine sk (ab ?_);iterate 2 refine mq ?_
       obtain⟨Y,Ux,h⟩:=aa h;refine jb (av [.tmp 51,.tmp 52] rfl rfl KY rfl (ic k y5.1 x7 Y Ux)) ?_;refine aq (aC (aR (tn (ab ?_))));obtain⟨UC,Up,h⟩:=aa h;refine jb (bu rfl Up) ?_;refine mq (nl ?_);exact jz ((),(Y,UC)) h [0]
   .refine xa ?_;exact jz ((),y5.1) h [0]
  .refine du (Z:=Unit) (α:=Unit) (λM U=>[(5,Pt b1),(14,.eq (.int .u8 x3))]) (λM U=>[.obj b1 26 (.rep ap a0)]) (λe=>e=r) h (λe h=>Option.some.inj h) (λK hR h=>?_) (λM U h=>?_)
   .refine sr ?_;iterate 3 refine mq ?_
    refine jc (bg (t:=Tl) [(.tmp 55,_),(.tmp 56,_),(.tmp 57,_)] [a2,a3,a4] rfl rfl o8 (.cons rfl .rep (.cons rfl .rep (.cons rfl .rep .nil))) rfl rfl) ?_;refine ol qX ?_;refine eG rfl ?_;refine nt (aj (aE (λJ c=>[(5,Pt b1),(14,.eq (.int .u8 x3)),(58,.rep (.slice Tl) [a2,a3,a4]),(59,I ([a2,a3,a4].length:Int)),(60,I c)]) (λJ c=>[.obj b1 26 (.rep ap a0)]) (cO k a0 a2 a3 a4) k () 0 (λ_=>rfl) h (SE.fin [0] ⟨rfl,rfl,rfl,rfl,rfl,trivial⟩ rfl) (λn J c h=>?_)));unfold cO at h;refine sr (jb (bH rfl) ?_);refine nt (ak (ci h (λh=>?_) (λh=>?_)))
    .refine sk (du (Z:=Unit) (α:=Unit) (λE Q=>[(5,Pt b1),(14,.eq (.int .u8 x3)),(58,.rep (.slice Tl) [a2,a3,a4]),(59,I ([a2,a3,a4].length:Int)),(60,I c)]) (λE Q=>[.obj b1 26 (.rep ap a0)]) (λe=>e=r) h (λe h=>hR e h) (λK hR h=>?_) (λE Q h=>?_))
     .refine aj (sr (mq ?_));obtain⟨x,Uo,h⟩:=aa h;refine jb (aY (t:=Tl) rfl qX iF Uo) ?_;refine ja (au (t:=Tl) rfl iF rfl) ?_;refine aq ?_;refine aq (nt (sr ?_));refine mq ?_;refine ol iv ?_;refine eG rfl ?_;refine nt (aj (aE (λD u=>[(5,Pt b1),(14,.eq (.int .u8 x3)),(17,I c),(58,.rep (.slice Tl) [a2,a3,a4]),(59,I ([a2,a3,a4].length:Int)),(60,I c),(65,.rep Tl x),(66,I (x.length:Int)),(67,I u)]) (λD u=>[.obj b1 26 (.rep ap a0)]) (dz k a0 c x) k () 0 (λ_=>rfl) h (SE.fin [0] ⟨rfl,rfl,rfl,rfl,rfl,rfl,rfl,rfl,rfl,trivial⟩ rfl) (λn D u h=>?_)));unfold dz at h;refine sr (jb (bH rfl) ?_);refine nt (ak (ci h (λh=>?_) (λh=>?_)))
      .refine sk (ak (aj (sr ?_)));obtain⟨UB,Un,h⟩:=aa h;refine jb (aY (t:=Ti) rfl iv cL Un) ?_;refine ja (au (t:=Ti) rfl cL rfl) ?_;refine aq (nt (sr ?_));refine mq ?_;refine fl gA ?_;refine lo cL ?_;obtain⟨UN,zz,h⟩:=aa h;refine jb (eF rfl zz) ?_;refine fl eI ?_;refine lo lC ?_;refine ol Aj ?_;obtain⟨UM,qt,h⟩:=aa h;refine jb (eF rfl qt) ?_;refine fl eI ?_;refine lo lC ?_;refine ol Aj ?_;refine jc (D7 rfl QR cL Pg) ?_;refine mq ?_;obtain⟨UA,mw,h⟩:=aa h;refine jb (nQ (t:=Ti) rfl QR cL rfl rfl (λ_=>rfl) mw) ?_;obtain⟨UF,Uw,h⟩:=aa h;refine jc (av [.tmp 71,.const (.int .i64 (0)),.tmp 84] rfl rfl xC rfl (dK k UB 0 UA UF Uw)) ?_;refine ja (iK rfl) ?_;refine nt (cw h (λh=>?_) (λh=>?_))
       .refine sr (cq ?_);refine cq ?_;refine cq (nt (aA (br (ba (br (ba (aW ?_)))))));obtain rfl:=hR _ h;exact aO (0,0) [.eq (.pointer none),_,_] 0 ⟨rfl,rfl,rfl,trivial⟩ rfl
       .refine bf (aR (tn (ab ?_)));obtain⟨Uz,mc,h⟩:=aa h;refine jb (bu rfl mc) ?_;refine mq (nl ?_);exact jz ((),Uz) h [0]
      .refine fV (bR (bR (c8 (bn ?_))));exact jz ((),()) h [0]
     .refine ab ?_;obtain⟨Uy,gw,h⟩:=aa h;refine jb (bu rfl gw) ?_;refine mq (nl ?_);exact jz ((),Uy) h [0]
    .refine xa ?_;exact jz ((),()) h [0]
   .refine sr (lo im ?_);obtain⟨X,Uu,h⟩:=aa h;have j:=nm k a0 X Uu;rcases hr:X with _ |UG
    .rw [hr] at h j;replace h:=uC h;refine aI (Δ:=[]) (F:=_) (λ_ _ _=>ag rfl _) rfl rfl (av [.tmp 89] rfl rfl KW rfl j) ⟨rfl,trivial⟩ λ_=>?_;cases h
    .rw [hr] at h j;replace h:=uB h;refine aI (Δ:=[]) (F:=_) (λ_ _ _=>ag rfl _) rfl rfl (av [.tmp 89] rfl rfl KW rfl j) ⟨rfl,trivial⟩ λl=>?_;refine aq (nt (sr ?_));refine mq ?_;obtain⟨UE,Ut,h⟩:=aa h;refine fr 1 ?_;refine fr 1 ?_;refine aI (Δ:=[_,_]) (F:=_) (λ_ _ _=>ag rfl _) rfl rfl (aS [.tmp 91] rfl rfl SG rfl (pL k UG l.1 l.2 UE Ut)) ⟨rfl,trivial⟩ λ_=>?_;refine nt (sr ?_);iterate 2 refine mq ?_
     refine aq ?_;refine aq ?_;refine cq (nt (aA ?_));cases h;exact aO (l.1,l.2) [.eq (.pointer (some ⟨l.1,0,none⟩)),_,_] 2 ⟨rfl,rfl,rfl,trivial⟩ rfl
def cx(k:Nat)(a0:ae)(a2:Int)(r1:(List (List Int))):Nat->Int->Option Bool
 |0,_=>none
 |n+1,y3=>
  if y3 < (a0.2.2.2.2.2.length:Int) then((aQ a0.2.2.2.2.2 y3).bind λx5=>
  (((eU k a2 y3).bind λr9=>
  if¬(r9=true) then((aQ r1 x5.2.1).bind λh=>
  (aQ h x5.1).bind λe=>
  some (!decide ((decide (a0.2.2.1≤e))=x5.2.2))) else(some false)):Option (Bool)).bind λx7=>
  if x7=true then(some false) else((ck (y3+1)).bind λc=>
  cx k a0 a2 r1 n c)) else(some true)
def gf(k:Nat)(a0:ae)(a1:Int)(a2:Int):Option Bool:=
 (lq k a0 a1).bind λr1=>
 cx k a0 a2 r1 k 0
theorem nW(k:Nat)(a0:ae)(c z_a0:Nat)(a1:Int)(a2:Int)(r:Bool)(h:gf k a0 a1 a2=some r):
 BK (dP Tryz.prog) 96 [Pt c,.eq (.int .u8 a1),.eq (.int .u8 a2)] [.obj c 129 (aN a0 z_a0),.inv z_a0 (bQ k a0)] (.iface 150 (.agg #[])) r:=by
 unfold gf at h
 replace h:=bi h
 refine BK.of 48 Tryz.func96 rfl Tryz.ntmps96 rfl λS w0=>?_
 refine sr ?_
 iterate 2 refine mq ?_
 obtain⟨r1,E,h⟩:=aa h
 have J:=oQ k a0 c z_a0 a1 r1 E
 refine fr 1 ?_
 refine fr 1 ?_
 refine aI (Δ:=[_,_]) (F:=_) (λ_ _ _=>ag rfl _) rfl rfl (aS [.tmp 9,.tmp 10] rfl rfl Eo rfl J) ⟨rfl,rfl,trivial⟩ λ_=>?_
 refine aX rfl rfl rfl (bo rfl E4 Ii) trivial λb2=>?_
 refine aP rfl rfl (aM rfl FT rfl rfl rfl) ⟨rfl,rfl,trivial⟩ ?_
 refine fg (jo (t:=(.arr 7 Tr)) (x:=r1) [6] .rep ⟨rfl,trivial⟩) ?_
 refine nt ?_
 refine sr ?_
 refine mq ?_
 refine ja (cJ rfl) ?_
 refine fl gJ ?_
 refine fl uv ?_
 refine lo FU ?_
 refine ol QQ ?_
 refine eG rfl ?_
 refine nt ?_
 refine aj ?_
 refine aE (λz4 y3=>[(0,Pt c),(2,.eq (.int .u8 a2)),(6,.at (.arr 7 Tr) r1),(16,Rs bb a0.2.2.2.2.2),(17,I (a0.2.2.2.2.2.length:Int)),(18,I y3)]) (λz4 y3=>[.obj c 129 (aN a0 z_a0),.inv z_a0 (bQ k a0)]) (cx k a0 a2 r1) k () 0 (λ_=>rfl) h (SE.fin [0,1] ⟨rfl,rfl,rfl,rfl,rfl,rfl,trivial⟩ rfl) (λn z4 y3 h=>?_)
 unfold cx at h
 refine sr ?_
 refine jb (bH rfl) ?_
 refine nt ?_
 refine ak ?_
 refine ci h (λh=>?_) (λh=>?_)
 .
  refine sk (ak (aj (sr (mq ?_))));obtain⟨x5,y,h⟩:=aa h;refine jb (aY (t:=bb) rfl QQ tG y) ?_;refine ja (au (t:=bb) rfl tG rfl) ?_;refine aX rfl rfl rfl (bo rfl DF Lr) trivial λb6=>?_;refine aq ?_;refine aP rfl rfl (aM rfl tG rfl rfl rfl) ⟨rfl,rfl,trivial⟩ ?_;refine nt (aG (Z:=Unit) (α:=Bool) (λz8 x7=>[(0,Pt c),(2,.eq (.int .u8 a2)),(6,.at (.arr 7 Tr) r1),(16,Rs bb a0.2.2.2.2.2),(17,I (a0.2.2.2.2.2.length:Int)),(18,I y3),(44,.eq (.bool x7))]) (λz8 x7=>[.obj c 129 (aN a0 z_a0),.inv z_a0 (bQ k a0)]) h (λK h=>?_) (λz8 x7 h=>?_))
  .refine cP ?_;refine dm ?_;refine dm ?_;obtain⟨r9,D,h⟩:=aa h;refine db (av [.tmp 23,.tmp 24] rfl rfl HY rfl (gu k a2 y3 r9 D)) ?_;refine da (iK rfl) ?_;refine ya rfl rfl rfl (bG rfl) ⟨rfl,trivial⟩ (λhb=>?_) (λhb=>?_)
   .replace h:=fR (AS hb) h;refine dU rfl rfl rfl rfl rfl (aH rfl HO) ⟨rfl,rfl,trivial⟩ ?_;refine kE 0 rfl rfl rfl rfl rfl rfl (ay rfl cL pe rfl) ⟨rfl,rfl,trivial⟩ ?_;refine dU rfl rfl rfl rfl rfl (aH rfl HQ) ⟨rfl,rfl,trivial⟩ ?_;refine kE 0 rfl rfl rfl rfl rfl rfl (ay rfl cL pe rfl) ⟨rfl,rfl,trivial⟩ ?_;obtain⟨M,l,h⟩:=aa h;refine dU rfl rfl rfl rfl rfl (co (t:=Tr) rfl IX iY l) ⟨rfl,rfl,rfl,trivial⟩ ?_;obtain⟨u,j,h⟩:=aa h;refine dU rfl rfl rfl rfl rfl (co (t:=Ti) rfl BD cL j) ⟨rfl,rfl,rfl,trivial⟩ ?_;refine dU rfl rfl rfl rfl rfl (au (t:=Ti) rfl cL rfl) ⟨rfl,rfl,trivial⟩ ?_;refine dU rfl rfl rfl rfl rfl (bG rfl) ⟨rfl,rfl,trivial⟩ ?_;refine dU rfl rfl rfl rfl rfl (cJ rfl) ⟨rfl,rfl,trivial⟩ ?_;refine dU rfl rfl rfl rfl rfl (aH rfl gJ) ⟨rfl,rfl,trivial⟩ ?_;refine dU rfl rfl rfl rfl rfl (aH rfl Bi) ⟨rfl,rfl,trivial⟩ ?_;refine kE 1 rfl rfl rfl rfl rfl rfl (ay rfl cL pe rfl) ⟨rfl,rfl,trivial⟩ ?_;refine dU rfl rfl rfl rfl rfl (i7 rfl) ⟨rfl,rfl,rfl,trivial⟩ ?_;refine dU rfl rfl rfl rfl rfl (aH rfl Oh) ⟨rfl,rfl,trivial⟩ ?_;refine kE 0 rfl rfl rfl rfl rfl rfl (ay rfl PC pe rfl) ⟨rfl,rfl,trivial⟩ ?_;refine df ew ?_;refine gb (GI rfl U4) ?_;refine pt (nl ?_);exact jz ((), !decide ((decide (a0.2.2.1≤u))=x5.2.2)) h [1,2]
   .replace h:=dr (t7 hb) h;iterate 15 refine dg ?_
    refine df ew ?_;refine gn ?_;refine pf (nl ?_);exact jz ((),false) h [1,2]
  .refine cv h (λh=>?_) (λh=>?_)
   .refine ab (bY rfl (GP rfl OK Pe) trivial ?_);refine ja (GM rfl OK) ?_;refine EU rfl rfl rfl rfl ?_;refine zY ?_;refine sK ?_;refine sK ?_;refine zY ?_;refine bU (SE.fin (Γ':=[]) [0,1] trivial rfl) ?_;cases h;exact LN
   .refine bf (aR (tn (ab ?_)));obtain⟨s,e,h⟩:=aa h;refine jb (bu rfl e) ?_;refine mq (nl ?_);exact jz ((),s) h [0,1]
 .
  refine fV (bR (bR (c8 (jV ?_))));refine bU (SE.fin (Γ':=[]) [0,1] trivial rfl) ?_;cases h;exact aO () [] 2 trivial rfl
def c7(k:Nat)(a0:ae)(a1:Int)(a2:Int):Option Bool:=gf k a0 a1 a2
theorem MA:OL Tryz.prog 150 (.agg #[]):=⟨⟨_,OK⟩,λw=>by kernel_rfl⟩
theorem HZ:∀(S:FS) (w:World),(A.rep (.arr 0 Ti) []).holds S w (.agg #[]):=λ_ _=>⟨[],⟨rfl,rfl⟩,rfl⟩
theorem LZ:∀w,(zeroValue 150).run Tryz.prog w= .ok (.agg #[]) w:=λw=>by kernel_rfl
theorem MS:∀S w,(A.cells S w (.rep (.arr 0 Ti) []) (Value.cells (.agg #[])).toList):=λ_ _=>⟨rfl,rfl⟩
theorem MC:dZ Tryz.prog 150 0 true:=⟨λw=>by kernel_rfl,λw=>by kernel_rfl⟩
theorem Sj:ah Tryz.prog 95:=ah.of Tryz.func95 (by kernel_rfl) (by kernel_rfl)
theorem Qo:ah Tryz.prog 96:=ah.of Tryz.func96 (by kernel_rfl) (by kernel_rfl)
theorem Jj:dZ Tryz.prog 4 1 false:=⟨λw=>by kernel_rfl,λw=>by kernel_rfl⟩
theorem Rx:∀w,(zeroValue 4).run Tryz.prog w= .ok (.bool false) w:=λw=>by kernel_rfl
theorem Tz:∀S w,(A.cells S w (.eq (.bool false)) (Value.cells (.bool false)).toList):=λ_ _=>⟨rfl,rfl⟩
theorem zF:yb Tryz.prog 95 (.iface 150 (.agg #[])) 4 (.bool false):=by
 refine⟨Sj,λM e0=>?_,λM e0=>?_⟩
 .refine lA.of (M:=M) (m:=.returning) (m1:=.returning) (val:=.nilIface) Tryz.func95 rfl rfl (by decide) rfl rfl (by decide) (λρ=>rfl) (λfr b cs hb hm=>Gj hb hm rfl) (.inl rfl) λb S w0=>?_;refine ja (JL HZ rfl MA) ?_;refine mq ?_;refine xr ?_;refine xr ?_;refine aX rfl rfl rfl (bo rfl LZ MS) trivial λb1=>?_;refine aP rfl rfl (aM rfl MC rfl rfl rfl) ⟨rfl,rfl,trivial⟩ ?_;refine aq (nt (sr ?_));refine mq (nt ?_);refine iW rfl (λhb=>by cases hb) (λhb=>?_);refine bf (jV ?_);refine bU (SE.fin (Γ':=[]) [1] trivial rfl) ?_;exact aO () [] 1 trivial rfl
 .refine lA.of (M:=M) (m:=.panicking (gR (.iface 150 (.agg #[])) false)) (m1:=.panicking (gR (.iface 150 (.agg #[])) true)) (val:=.iface 150 (.agg #[])) Tryz.func95 rfl rfl (by decide) rfl rfl (by decide) (λρ=>rfl) (λfr b cs hb hm=>Gi hb hm) (.inr ⟨_,rfl⟩) λb S w0=>?_;refine ja (JK HZ rfl MA) ?_;refine mq ?_;refine xr ?_;refine xr ?_;refine aX rfl rfl rfl (bo rfl LZ MS) trivial λb1=>?_;refine aP rfl rfl (aM rfl MC rfl rfl rfl) ⟨rfl,rfl,trivial⟩ ?_;refine aq (nt (sr ?_));refine mq (nt ?_);refine iW rfl (λhb=>?_) (λhb=>by cases hb);refine ab (fr 1 ?_);refine aP rfl rfl (aM rfl Jj rfl rfl rfl) ⟨rfl,rfl,trivial⟩ ?_;refine aC (jV ?_);refine bU (SE.fin (Γ':=[]) [0] trivial rfl) ?_;exact aO () [] 1 trivial rfl
theorem nz(k:Nat)(a0:ae)(c z_a0:Nat)(a1:Int)(a2:Int)(r:Bool)(h:c7 k a0 a1 a2=some r):
 bW (dP Tryz.prog) 74 [Pt c,.eq (.int .u8 a1),.eq (.int .u8 a2)] (qg a0 c z_a0 k) (λ_:Unit=>(bI [.eq (.bool r)],qg a0 c z_a0 k)):=by
 have cr:=nW k a0 c z_a0 a1 a2 r h
 refine Ab 12 Tryz.func74 rfl Tryz.ntmps74 rfl λS w0=>?_
 refine sr ?_
 refine aX rfl rfl rfl (bo rfl Rx Tz) trivial λb6=>?_
 refine nt ?_
 refine sr ?_
 refine ja (rI [] [.tmp 6] [] [(Pv b6)] rfl rfl rfl) ?_
 refine IF rfl rfl rfl rfl rfl ?_
 refine nt ?_
 refine sr ?_
 iterate 3 refine mq ?_
 refine fr 2 ?_
 refine fr 2 ?_
 cases r with
 |false=>
  refine IG (Ss:=[Pt c,.eq (.int .u8 a1),.eq (.int .u8 a2)]) (Δ:=qg a0 c z_a0 k) (F:=[.obj b6 4 (.eq (.bool false))]) [.tmp 8,.tmp 9,.tmp 10] rfl rfl rfl rfl Qo ⟨rfl,rfl,rfl,trivial⟩ cr ?_;refine sK ?_;refine bU (SE.fin (Γ':=[(6,_)]) [2,0,1] ⟨rfl,trivial⟩ rfl) ?_;refine EV zF ?_;refine bU (SE.fin (Γ':=[(6,_)]) [1,2,0] ⟨rfl,trivial⟩ rfl) ?_;exact aO () [.eq (.bool false)] 2 ⟨⟨_,_,_,_,_,rfl,(.tail _ (.tail _ (.head _))),Jj,(λ_=>rfl),rfl⟩,trivial⟩ rfl
 |true=>
  refine aI (Δ:=qg a0 c z_a0 k) (F:=[.obj b6 4 (.eq (.bool false))]) (λ_ _ _=>ag rfl _) rfl rfl (aS [.tmp 8,.tmp 9,.tmp 10] rfl rfl Qo rfl cr.ok) ⟨rfl,rfl,rfl,trivial⟩ λ_=>?_;refine nt (sr (fr 2 ?_));refine aP rfl rfl (aM rfl Jj rfl rfl rfl) ⟨rfl,rfl,trivial⟩ ?_;refine nt (aA (LM zF ?_));refine bU (SE.fin (Γ':=[(6,_)]) [1,2,0] ⟨rfl,trivial⟩ rfl) ?_;exact aO () [.eq (.bool true)] 2 ⟨⟨_,_,_,_,_,rfl,(.tail _ (.tail _ (.head _))),Jj,(λ_=>rfl),rfl⟩,trivial⟩ rfl
def ek(k:Nat)(a0:ae)(a1:Int):Option (List Int):=
 (jH k (qo (λ(y5:(List Int)) (p7:Int)=>
  (c7 k a0 p7 a1).bind λr9=>
  if r9=true then((cK (cf (length y5+length [p7]))).bind λ_=>
  some (y5++[p7],true)) else(some (y5,true)))) a0.1 (([]:(List Int)),false)).bind λr8=>
 if r8.2=true then(none) else(some r8.1)
theorem kl(k:Nat)(a0:ae)(c z_a0:Nat)(a1:Int)(r:(List Int))(h:ek k a0 a1=some r):
 bW (dP Tryz.prog) 38 [Pt c,.eq (.int .u8 a1)] [.obj c 129 (aN a0 z_a0),.inv z_a0 (bQ k a0)] (λ_:Unit=>(bI [.rep (.slice (.int .u8)) r],[.obj c 129 (aN a0 z_a0),.inv z_a0 (bQ k a0)])):=by
 unfold ek at h
 replace h:=bi h
 refine uU 23 Tryz.func38 rfl Tryz.ntmps38 rfl λS w0=>?_
 refine sr ?_
 refine bx λb1=>?_
 refine bx λb2=>?_
 refine cq ?_
 refine nt ?_
 refine sr ?_
 refine aX rfl rfl rfl (bo rfl I0 Lq) trivial λb3=>?_
 refine nt ?_
 refine ak ?_
 refine sr ?_
 refine fr 2 ?_
 refine lo Ji ?_
 refine ja (cJ rfl) ?_
 refine fl gJ ?_
 refine fl gA ?_
 refine fr 3 ?_
 refine lo cL ?_
 refine aX rfl rfl rfl (av [.tmp 11] rfl rfl Qx rfl (qI a0.1)) ⟨rfl,trivial⟩ λb4=>?_
 refine nt ?_
 refine aj ?_
 refine jd (SE.nil 71 (.int .u8)) ?_
 refine dQ 6 rfl ?_
 refine dQ 6 rfl ?_
 refine dQ 2 rfl ?_
 refine dQ 6 rfl ?_
 refine dQ 6 rfl ?_
 refine dQ 6 rfl ?_
 refine dQ 6 rfl ?_
 obtain⟨r8,s,h⟩:=aa h
 refine ri (Δ:=[.obj b4 3 (I a0.1),.obj c 129 (aN a0 z_a0),.obj b1 70 (Pt c),.obj b3 74 (.eq (.slice none 0 0)),.sl (.slice none 0 0) 71 (.int .u8) ([]:(List Int)),.obj b2 71 (.eq (.int .u8 a1)),.inv z_a0 (bQ k a0)]) (F:=[]) (X:=Value) (J:=λ_=>O6 r8.2) (E:=λz6=>[.obj b4 3 (I a0.1),.obj c 129 (aN a0 z_a0),.obj b1 70 (Pt c),.obj b3 74 (.eq z6),.sl z6 71 (.int .u8) r8.1,.obj b2 71 (.eq (.int .u8 a1)),.inv z_a0 (bQ k a0)]) (r0:=λ_=>.tup .any) rfl rfl Qs (λrec hp ha hb hs hpe hN hv l=>?_) (λdl z6=>tH (λhj=>?_) (λhj=>?_))
 .
  rcases rec with⟨st0,pe0,fn0,tm0,ps0,as0,bd0,df0⟩;dsimp only at hp ha hb hs hpe hN hv;subst hp hs hpe;have vN:zS tm0 [(2,Pt b1),(3,Pt b2),(5,Pt b3)]:=⟨congrArg A.eq (hv 2 _ rfl).symm,congrArg A.eq (hv 3 _ rfl).symm,congrArg A.eq (hv 5 _ rfl).symm,trivial⟩;refine bW.pick (M:=(dP Tryz.prog)) [1,0,2,3,4,5,6,7] [1,0,2,3,4,5,6,7] (nX (λ(z6:Value) (q:(List Int)×Bool)=>[.raw l (.loop (j6 ⟨.ready,none,fn0,tm0, #[13],as0,bd0,df0⟩ (O6 q.2))),.obj c 129 (aN a0 z_a0),.obj b1 70 (Pt c),.obj b3 74 (.eq z6),.sl z6 71 (.int .u8) q.1,.obj b2 71 (.eq (.int .u8 a1)),.inv z_a0 (bQ k a0)]) l (qo (λ(y5:(List Int)) (p7:Int)=>
  (c7 k a0 p7 a1).bind λr9=>
  if r9=true then((cK (cf (length y5+length [p7]))).bind λ_=>
  some (y5++[p7],true)) else(some (y5,true)))) k a0.1 b4 (λz6 q p r' h=>?_) (.slice none 0 0) (([]:(List Int)),false) r8 s) rfl (λ_=>rfl) (λ_=>rfl)
  obtain⟨rq,hq,h2,rfl⟩:=tI h;obtain⟨y5,b5⟩:=q;obtain rfl:b5=false:=hq;replace h:=bi h2;obtain⟨p7,hpv⟩:∃x,x=p:=⟨_,rfl⟩;subst hpv;refine YT.pick (R':=(λz6:Value=>(.eq (.bool rq.2),[.raw l (.loop (j6 ⟨.ready,none,fn0,tm0, #[13],as0,bd0,df0⟩ (O6 (!rq.2)))),.obj c 129 (aN a0 z_a0),.obj b1 70 (Pt c),.obj b3 74 (.eq z6),.sl z6 71 (.int .u8) rq.1,.obj b2 71 (.eq (.int .u8 a1)),.inv z_a0 (bQ k a0)]))) [0,1,2,3,4,5,6] [0,1,2,3,4,5,6] (Ik ha hb (N:=23) (Γ:=[(2,Pt b1),(3,Pt b2),(5,Pt b3)]) rfl hN (by decide) vN (λS w=>?_)) rfl (λ_=>rfl) (λ_=>rfl);refine ab (aq (nl ?_));refine zZ rfl rfl ?_;refine aj (sr (fr 2 ?_));refine lo Ji ?_;refine mq ?_;refine fr 5 ?_;refine lo nG ?_;obtain⟨r9,n,h⟩:=aa h;refine fr 6 ?_;refine fr 4 ?_;refine aI (Δ:=[_,_]) (F:=_) (λ_ _ _=>ag rfl _) rfl rfl (aS [.tmp 14,.tmp 15,.tmp 16] rfl rfl SD rfl (nz k a0 c z_a0 p7 a1 r9 n)) ⟨rfl,rfl,rfl,trivial⟩ λ_=>?_;refine nt (cv h (λh=>?_) (λh=>?_))
  .refine ab (fr 5 ?_);refine lo wN ?_;refine mq ?_;refine ja (bg (t:=(.int .u8)) [(.tmp 19,_)] [p7] rfl rfl Jv (.cons rfl .int .nil) rfl rfl) ?_;obtain⟨u,e,h⟩:=aa h;refine fr 6 ?_;refine eK rfl rfl rfl (cN rfl rfl Jv (am e)) ⟨rfl,rfl,trivial⟩ λj=>?_;refine sJ λo12=>?_;refine fr 1 ?_;refine aP rfl rfl (aM rfl wN o12 rfl rfl) ⟨rfl,rfl,trivial⟩ ?_;refine aC (aR (bq 3 rfl ?_));refine bq 4 rfl ?_;refine bq 3 rfl ?_;refine bq 3 rfl ?_;refine bq 5 rfl ?_;refine bq 5 rfl ?_;refine bq 6 rfl ?_;cases h;exact o5 j 6 rfl
  .refine bf (aR (bq 1 rfl ?_));refine bq 2 rfl ?_;refine bq 6 rfl ?_;refine bq 6 rfl ?_;refine bq 5 rfl ?_;refine bq 5 rfl ?_;refine bq 6 rfl ?_;cases h;exact o5 z6 6 rfl
 .
  replace h:=dr (Me hj) h;refine aR (tn (sr (fr 4 ?_)));refine lo wN ?_;refine aq (nt (aA ?_));refine bq 5 rfl ?_;refine bU (nf (off:=0) [4,22] ⟨rfl,rfl,trivial⟩ rfl rfl) ?_;refine bq 1 rfl ?_;refine Ds ?_;refine bU (SE.fin (Γ':=[(4,_)]) [2,5,0,1,3,4] ⟨rfl,trivial⟩ rfl) ?_;cases h;exact aO () [_] 2 ⟨rfl,trivial⟩ rfl
 .
  replace h:=fR (L9 hj) h;cases h
def ee(k:Nat)(r7:(List Int)):Nat->((List (List Int))×Int)->Option (List (List Int))
 |0,_=>none
 |n+1,y8=>
  if y8.2 < (r7.length:Int) then((aQ r7 y8.2).bind λh=>
  (eT k h).bind λc=>
  (cK (cf (length y8.1+length [c]))).bind λ_=>
  (ck (y8.2+1)).bind λe=>
  ee k r7 n (y8.1++[c],e)) else(some y8.1)
def ir(k:Nat)(a0:ae):Option ((List (List Int))×Int):=
 (jF k a0 ([]:(List Int)) ([]:(List Int)) ([]:(List Int)) ([]:(List Int))).bind λr2=>
 fQ r2.1 (if¬(r2.2.2=0) then(some (([]:(List (List Int))),r2.2.2)) else(none)) (λq3=>if¬(r2.2.2=0) then(some (([]:(List (List Int))),r2.2.2)) else((((ek k q3 0).bind λr7=>
 ee k r7 k (([]:(List (List Int))),0)):Option ((List (List Int)))).bind λx5=>
 some (x5,0)))
theorem pq(k:Nat)(a0:ae)(r:(List (List Int))×Int)(h:ir k a0=some r):
 bW (dP Tryz.prog) 12 [.rep ap a0] [] (λ_:Unit=>(bI [.rep (.slice Tl) r.1,I r.2],[])):=by
 unfold ir at h
 replace h:=bi h
 refine bW.of 33 Tryz.func12 rfl Tryz.ntmps12 rfl λS w0=>?_
 refine sr ?_
 refine bx λb1=>?_
 refine cq ?_
 refine cq ?_
 refine nt ?_
 refine sr ?_
 refine lo im ?_
 obtain⟨r2,M,h⟩:=aa h
 have c:=lM k a0 ([]:(List Int)) ([]:(List Int)) ([]:(List Int)) ([]:(List Int)) r2 M
 rcases hr:r2.1 with _ |q3
 .
  rw [hr] at h c;replace h:=uC h;refine aI (Δ:=[]) (F:=_) (λ_ _ _=>ag rfl _) rfl rfl (bT (N:=[(.tmp 11,.rep ap a0),(.const (.slice none 0 0),.eq (.slice none 0 0)),(.const (.slice none 0 0),.eq (.slice none 0 0)),(.const (.slice none 0 0),.eq (.slice none 0 0)),(.const (.slice none 0 0),.eq (.slice none 0 0))]) (aS [.tmp 11,.const (.slice none 0 0),.const (.slice none 0 0),.const (.slice none 0 0),.const (.slice none 0 0)] rfl rfl zu rfl c) λ_ _ _ hn=>⟨hn.1,(aF (t:=Tl) (x:=([]:(List Int))) .nil rfl rfl hn.2.1),(aF (t:=Tl) (x:=([]:(List Int))) .nil rfl rfl hn.2.2.1),(aF (t:=Tl) (x:=([]:(List Int))) .nil rfl rfl hn.2.2.2.1),(aF (t:=Tl) (x:=([]:(List Int))) .nil rfl rfl hn.2.2.2.2.1),trivial⟩) ⟨rfl,rfl,rfl,rfl,rfl,trivial⟩ λ_=>?_;refine mq ?_;refine xr ?_;refine xr ?_;refine xr ?_;refine aq ?_;refine aq ?_;refine aq (nt (ak (sr ?_)));refine mq ?_;refine jb (eQ rfl) ?_;refine nt (cn h (λh=>?_) (λh=>?_))
  .refine sr (mq ?_);refine cq ?_;refine aq (nt (rx ?_));refine bU (eA (t:=(.slice Tl)) (x:=([]:(List (List Int)))) 2 rfl .nil rfl rfl) ?_;cases h;exact rb
  .cases h
 .
  rw [hr] at h c;replace h:=uB h;refine aI (Δ:=[]) (F:=_) (λ_ _ _=>ag rfl _) rfl rfl (bT (N:=[(.tmp 11,.rep ap a0),(.const (.slice none 0 0),.eq (.slice none 0 0)),(.const (.slice none 0 0),.eq (.slice none 0 0)),(.const (.slice none 0 0),.eq (.slice none 0 0)),(.const (.slice none 0 0),.eq (.slice none 0 0))]) (aS [.tmp 11,.const (.slice none 0 0),.const (.slice none 0 0),.const (.slice none 0 0),.const (.slice none 0 0)] rfl rfl zu rfl c) λ_ _ _ hn=>⟨hn.1,(aF (t:=Tl) (x:=([]:(List Int))) .nil rfl rfl hn.2.1),(aF (t:=Tl) (x:=([]:(List Int))) .nil rfl rfl hn.2.2.1),(aF (t:=Tl) (x:=([]:(List Int))) .nil rfl rfl hn.2.2.2.1),(aF (t:=Tl) (x:=([]:(List Int))) .nil rfl rfl hn.2.2.2.2.1),trivial⟩) ⟨rfl,rfl,rfl,rfl,rfl,trivial⟩ λz4=>?_;refine mq ?_;refine xr ?_;refine xr ?_;refine xr ?_;refine aq ?_;refine aq ?_;refine aq (nt (ak (sr ?_)));refine mq ?_;refine jb (eQ rfl) ?_;refine nt (cn h (λh=>?_) (λh=>?_))
  .refine sr (mq ?_);refine cq ?_;refine aq (nt (rx ?_));refine bU (eA (t:=(.slice Tl)) (x:=([]:(List (List Int)))) 2 rfl .nil rfl rfl) ?_;cases h;exact rb
  .refine sk (sr (cq (nt ?_)));refine aG (Z:=Value) (α:=(List (List Int))) (λz6 x5=>[(7,.eq z6)]) (λz6 x5=>[.sl z6 22 Tl x5,.inv z4.2 (bQ k q3)]) h (λK h=>?_) (λz6 x5 h=>?_)
   .refine sr (mq ?_);obtain⟨r7,J,h⟩:=aa h;refine fr 1 ?_;refine fr 1 ?_;refine aI (Δ:=[_,_]) (F:=_) (λ_ _ _=>ag rfl _) rfl rfl (aS [.tmp 19,.const (.int .u8 (0))] rfl rfl QA rfl (kl k q3 z4.1 z4.2 0 r7 J)) ⟨rfl,rfl,trivial⟩ λ_=>?_;refine ol yg ?_;refine eG rfl ?_;refine nt (aj (jd (SE.nil 22 Tl) ?_));refine aE (λz9 y8=>[(7,.eq z9),(20,.rep (.slice (.int .u8)) r7),(21,I (r7.length:Int)),(22,I y8.2)]) (λz9 y8=>[.sl z9 22 Tl y8.1,.inv z4.2 (bQ k q3)]) (ee k r7) k (.slice none 0 0) (([]:(List (List Int))),0) (λ_=>rfl) h (SE.fin [0,2] ⟨rfl,rfl,rfl,rfl,trivial⟩ rfl) (λn z9 y8 h=>?_);unfold ee at h;refine sr (jb (bH rfl) ?_);refine nt (ak (ci h (λh=>?_) (λh=>?_)))
    .refine sk (ak (aj (sr ?_)));obtain⟨D,l,h⟩:=aa h;refine jb (aY (t:=(.int .u8)) rfl yg nG l) ?_;refine ja (au (t:=(.int .u8)) rfl nG rfl) ?_;refine aq (nt (ab ?_));iterate 2 refine mq ?_
     obtain⟨e,u,h⟩:=aa h;refine ja (av [.tmp 27] rfl rfl KZ rfl (ie k D e u)) ?_;refine ja (bg (t:=Tl) [(.tmp 28,_)] [e] rfl rfl o8 (.cons rfl .rep .nil) rfl rfl) ?_;obtain⟨O,s,h⟩:=aa h;refine eK rfl rfl rfl (cN rfl rfl o8 (am s)) ⟨rfl,rfl,trivial⟩ λE=>?_;refine aq (aC (aR (tn (ab ?_))));obtain⟨y,j,h⟩:=aa h;refine jb (bu rfl j) ?_;refine mq (nl ?_);exact jz (E,(y8.1++[e],y)) h [0,1]
    .refine xa ?_;exact jz (z9,y8.1) h [0,1]
   .refine sr (mq ?_);refine aq ?_;refine cq (nt (aA ?_));refine bU (jp [2,7,32] ⟨rfl,rfl,rfl,trivial⟩) ?_;cases h;exact rb
def d5(k:Nat)(a0:ae)(r5:(List (List Int)))(x9:Int):Nat->((List (List Int))×Int)->Option (List (List Int))
 |0,_=>none
 |n+1,c=>
  if c.2 < x9 then((aQ r5 c.2).bind λj=>
  (cK (0≤a0.1/\a0.1≤5)).bind λ_=>
  (gV k (List.take (Int.toNat a0.1) j)).bind λe=>
  (cK (cf (length c.1+length [e]))).bind λ_=>
  (ck (c.2+1)).bind λh=>
  d5 k a0 r5 x9 n (c.1++[e],h)) else(some c.1)
def iq(k:Nat)(a0:ae)(a1:(List Int)):Option ((List (List Int))×Int):=
 (jF k a0 a1 ([]:(List Int)) ([]:(List Int)) ([]:(List Int))).bind λr2=>
 fQ r2.1 (if¬(r2.2.2=0) then(some (([]:(List (List Int))),r2.2.2)) else(none)) (λq3=>if¬(r2.2.2=0) then(some (([]:(List (List Int))),r2.2.2)) else((lq k q3 r2.2.1).bind λr5=>
 (((ck ((a0.2.2.2.2.1.length:Int)+1)).bind λx9=>
 d5 k a0 r5 x9 k (([]:(List (List Int))),0)):Option ((List (List Int)))).bind λx7=>
 some (x7,0)))
theorem po(k:Nat)(a0:ae)(a1:(List Int))(r:(List (List Int))×Int)(h:iq k a0 a1=some r):
 bW (dP Tryz.prog) 13 [.rep ap a0,.rep Tl a1] [] (λ_:Unit=>(bI [.rep (.slice Tl) r.1,I r.2],[])):=by
 unfold iq at h
 replace h:=bi h
 refine bW.of 43 Tryz.func13 rfl Tryz.ntmps13 rfl λS w0=>?_
 refine sr ?_
 refine bx λb1=>?_
 refine cq ?_
 refine cq ?_
 refine nt ?_
 refine sr ?_
 refine lo im ?_
 refine mq ?_
 obtain⟨r2,X,h⟩:=aa h
 have j:=lM k a0 a1 ([]:(List Int)) ([]:(List Int)) ([]:(List Int)) r2 X
 rcases hr:r2.1 with _ |q3
 .
  rw [hr] at h j;replace h:=uC h;refine aI (Δ:=[]) (F:=_) (λ_ _ _=>ag rfl _) rfl rfl (bT (N:=[(.tmp 13,.rep ap a0),(.tmp 14,.rep Tl a1),(.const (.slice none 0 0),.eq (.slice none 0 0)),(.const (.slice none 0 0),.eq (.slice none 0 0)),(.const (.slice none 0 0),.eq (.slice none 0 0))]) (aS [.tmp 13,.tmp 14,.const (.slice none 0 0),.const (.slice none 0 0),.const (.slice none 0 0)] rfl rfl zu rfl j) λ_ _ _ hn=>⟨hn.1,hn.2.1,(aF (t:=Tl) (x:=([]:(List Int))) .nil rfl rfl hn.2.2.1),(aF (t:=Tl) (x:=([]:(List Int))) .nil rfl rfl hn.2.2.2.1),(aF (t:=Tl) (x:=([]:(List Int))) .nil rfl rfl hn.2.2.2.2.1),trivial⟩) ⟨rfl,rfl,rfl,rfl,rfl,trivial⟩ λ_=>?_;refine mq ?_;refine xr ?_;refine xr ?_;refine xr ?_;refine aq ?_;refine aq ?_;refine aq (nt (ak (sr ?_)));refine mq ?_;refine jb (eQ rfl) ?_;refine nt (cn h (λh=>?_) (λh=>?_))
  .refine sr (mq ?_);refine cq ?_;refine aq (nt (rx ?_));refine bU (eA (t:=(.slice Tl)) (x:=([]:(List (List Int)))) 4 rfl .nil rfl rfl) ?_;cases h;exact rb
  .cases h
 .
  rw [hr] at h j;replace h:=uB h;refine aI (Δ:=[]) (F:=_) (λ_ _ _=>ag rfl _) rfl rfl (bT (N:=[(.tmp 13,.rep ap a0),(.tmp 14,.rep Tl a1),(.const (.slice none 0 0),.eq (.slice none 0 0)),(.const (.slice none 0 0),.eq (.slice none 0 0)),(.const (.slice none 0 0),.eq (.slice none 0 0))]) (aS [.tmp 13,.tmp 14,.const (.slice none 0 0),.const (.slice none 0 0),.const (.slice none 0 0)] rfl rfl zu rfl j) λ_ _ _ hn=>⟨hn.1,hn.2.1,(aF (t:=Tl) (x:=([]:(List Int))) .nil rfl rfl hn.2.2.1),(aF (t:=Tl) (x:=([]:(List Int))) .nil rfl rfl hn.2.2.2.1),(aF (t:=Tl) (x:=([]:(List Int))) .nil rfl rfl hn.2.2.2.2.1),trivial⟩) ⟨rfl,rfl,rfl,rfl,rfl,trivial⟩ λz4=>?_;refine mq ?_;refine xr ?_;refine xr ?_;refine xr ?_;refine aq ?_;refine aq ?_;refine aq (nt (ak (sr ?_)));refine mq ?_;refine jb (eQ rfl) ?_;refine nt (cn h (λh=>?_) (λh=>?_))
  .refine sr (mq ?_);refine cq ?_;refine aq (nt (rx ?_));refine bU (eA (t:=(.slice Tl)) (x:=([]:(List (List Int)))) 4 rfl .nil rfl rfl) ?_;cases h;exact rb
  .refine sk (sr (cq (nt (sr ?_))));iterate 2 refine mq ?_
   obtain⟨r5,U,h⟩:=aa h;refine fr 1 ?_;refine fr 1 ?_;refine aI (Δ:=[_,_]) (F:=_) (λ_ _ _=>ag rfl _) rfl rfl (aS [.tmp 22,.tmp 23] rfl rfl Eo rfl (oQ k q3 z4.1 z4.2 r2.2.1 r5 U)) ⟨rfl,rfl,trivial⟩ λ_=>?_;refine aX rfl rfl rfl (bo rfl E4 Ii) trivial λb6=>?_;refine aP rfl rfl (aM rfl FT rfl rfl rfl) ⟨rfl,rfl,trivial⟩ ?_;refine fg (jo (t:=(.arr 7 Tr)) (x:=r5) [10] .rep ⟨rfl,trivial⟩) ?_;refine nt (aG (Z:=Value) (α:=(List (List Int))) (λz8 x7=>[(9,.eq z8)]) (λz8 x7=>[.sl z8 22 Tl x7,.inv z4.2 (bQ k q3)]) h (λK h=>?_) (λz8 x7 h=>?_))
   .refine sr (fl eI ?_);refine fr 2 ?_;refine lo lC ?_;refine ol Aj ?_;obtain⟨x9,Q,h⟩:=aa h;refine jb (bu rfl Q) ?_;refine eG rfl ?_;refine nt (aj (jd (SE.nil 22 Tl) ?_));refine aE (λe c=>[(2,Pt b1),(9,.eq e),(10,.at (.arr 7 Tr) r5),(28,I x9),(29,I c.2)]) (λe c=>[.obj b1 26 (.rep ap a0),.sl e 22 Tl c.1,.inv z4.2 (bQ k q3)]) (d5 k a0 r5 x9) k (.slice none 0 0) (([]:(List (List Int))),0) (λ_=>rfl) h (SE.fin [1,0,3] ⟨rfl,rfl,rfl,rfl,rfl,trivial⟩ rfl) (λn e c h=>?_);unfold d5 at h;refine sr (jb (bH rfl) ?_);refine nt (ak (ci h (λh=>?_) (λh=>?_)))
    .refine sk (ak (aj (sr (mq ?_))));refine aq (nt ?_);refine cP ?_;refine dm ?_;refine dm ?_;obtain⟨M,y,h⟩:=aa h;refine db (co (t:=Tr) rfl IX iY y) ?_;refine da (aH rfl gA) ?_;refine ea 0 (ay rfl cL pe rfl) ?_;obtain⟨gw,l,h⟩:=aa h;refine db (vh (t:=Ti) rfl BD cL (am l).1 (am l).2) ?_;obtain⟨s,E,h⟩:=aa h;refine da (Dl (av [.tmp 37] rfl rfl SY rfl (rA k (List.take (Int.toNat a0.1) M) s E))) ?_;refine da (bg (t:=Tl) [(.tmp 38,_)] [s] rfl rfl o8 (.cons rfl .rep .nil) rfl rfl) ?_;refine df ew ?_;obtain⟨Y,D,h⟩:=aa h;refine fr 1 ?_;refine eK rfl rfl rfl (cN rfl rfl o8 (am D)) ⟨rfl,rfl,trivial⟩ λO=>?_;refine aq (aC (aR (tn (ab ?_))));obtain⟨J,u,h⟩:=aa h;refine jb (bu rfl u) ?_;refine mq (nl ?_);exact jz (O,(c.1++[s],J)) h [1,0,2]
    .refine xa ?_;exact jz (e,c.1) h [1,2]
   .refine sr (mq ?_);refine aq ?_;refine cq (nt (aA ?_));refine bU (jp [4,9,42] ⟨rfl,rfl,rfl,trivial⟩) ?_;cases h;exact rb
def iy(k:Nat)(a0:ae)(a1:(List Int))(a2:(List Int))(a3:(List Int)):Option ((Option ae)×(List Int)×Int):=
 (jF k a0 ([]:(List Int)) a1 a2 a3).bind λr2=>
 fQ r2.1 (if¬(r2.2.2=0) then(some (none,([]:(List Int)),r2.2.2)) else(none)) (λq3=>if¬(r2.2.2=0) then(some (none,([]:(List Int)),r2.2.2)) else((ek k q3 0).bind λr5=>
 if(r5.length:Int)=0 then(some (none,([]:(List Int)),9)) else(some (some q3,r5,0))))
theorem kx(k:Nat)(a0:ae)(a1:(List Int))(a2:(List Int))(a3:(List Int))(r:(Option ae)×(List Int)×Int)(h:iy k a0 a1 a2 a3=some r):
 bW (dP Tryz.prog) 42 [.rep ap a0,.rep Tl a1,.rep Tl a2,.rep Tl a3] [] (λz:Nat×Nat=>(bI [JH r.1 z.1,.rep (.slice (.int .u8)) r.2.1,I r.2.2],JG r.1 λq=>qg q z.1 z.2 k)):=by
 unfold iy at h
 replace h:=bi h
 refine bW.of 34 Tryz.func42 rfl Tryz.ntmps42 rfl λS w0=>?_
 refine sr ?_
 refine bx λb1=>?_
 refine cq ?_
 refine cq ?_
 refine cq ?_
 refine nt ?_
 refine sr ?_
 refine lo im ?_
 iterate 3 refine mq ?_
 obtain⟨r2,j,h⟩:=aa h
 have c:=lM k a0 ([]:(List Int)) a1 a2 a3 r2 j
 rcases hr:r2.1 with _ |q3
 .
  rw [hr] at h c;replace h:=uC h;refine aI (Δ:=[]) (F:=_) (λ_ _ _=>ag rfl _) rfl rfl (bT (N:=[(.tmp 16,.rep ap a0),(.const (.slice none 0 0),.eq (.slice none 0 0)),(.tmp 17,.rep Tl a1),(.tmp 18,.rep Tl a2),(.tmp 19,.rep Tl a3)]) (aS [.tmp 16,.const (.slice none 0 0),.tmp 17,.tmp 18,.tmp 19] rfl rfl zu rfl c) λ_ _ _ hn=>⟨hn.1,(aF (t:=Tl) (x:=([]:(List Int))) .nil rfl rfl hn.2.1),hn.2.2.1,hn.2.2.2.1,hn.2.2.2.2.1,trivial⟩) ⟨rfl,rfl,rfl,rfl,rfl,trivial⟩ λ_=>?_;refine mq ?_;refine xr ?_;refine xr ?_;refine xr ?_;refine aq ?_;refine aq ?_;refine aq (nt (ak (sr ?_)));refine mq ?_;refine jb (eQ rfl) ?_;refine nt (cn h (λh=>?_) (λh=>?_))
  .refine sr (mq ?_);refine cq ?_;refine cq ?_;refine aq (nt (rx ?_));refine bU (eA (t:=(.slice (.int .u8))) (x:=([]:(List Int))) 9 rfl .nil rfl rfl) ?_;cases h;exact aO (0,0) [.eq (.pointer none),_,_] 0 ⟨rfl,rfl,rfl,trivial⟩ rfl
  .cases h
 .
  rw [hr] at h c;replace h:=uB h;refine aI (Δ:=[]) (F:=_) (λ_ _ _=>ag rfl _) rfl rfl (bT (N:=[(.tmp 16,.rep ap a0),(.const (.slice none 0 0),.eq (.slice none 0 0)),(.tmp 17,.rep Tl a1),(.tmp 18,.rep Tl a2),(.tmp 19,.rep Tl a3)]) (aS [.tmp 16,.const (.slice none 0 0),.tmp 17,.tmp 18,.tmp 19] rfl rfl zu rfl c) λ_ _ _ hn=>⟨hn.1,(aF (t:=Tl) (x:=([]:(List Int))) .nil rfl rfl hn.2.1),hn.2.2.1,hn.2.2.2.1,hn.2.2.2.2.1,trivial⟩) ⟨rfl,rfl,rfl,rfl,rfl,trivial⟩ λz4=>?_;refine mq ?_;refine xr ?_;refine xr ?_;refine xr ?_;refine aq ?_;refine aq ?_;refine aq (nt (ak (sr ?_)));refine mq ?_;refine jb (eQ rfl) ?_;refine nt (cn h (λh=>?_) (λh=>?_))
  .refine sr (mq ?_);refine cq ?_;refine cq ?_;refine aq (nt (rx ?_));refine bU (eA (t:=(.slice (.int .u8))) (x:=([]:(List Int))) 9 rfl .nil rfl rfl) ?_;cases h;exact aO (0,0) [.eq (.pointer none),_,_] 0 ⟨rfl,rfl,rfl,trivial⟩ rfl
  .refine sk (sr (mq ?_));obtain⟨r5,e,h⟩:=aa h;refine fr 1 ?_;refine fr 1 ?_;refine aI (Δ:=[_,_]) (F:=_) (λ_ _ _=>ag rfl _) rfl rfl (aS [.tmp 27,.const (.int .u8 (0))] rfl rfl QA rfl (kl k q3 z4.1 z4.2 0 r5 e)) ⟨rfl,rfl,trivial⟩ λ_=>?_;refine aq (nt (ak (sr ?_)));refine mq ?_;refine ol yg ?_;refine jb (i8 rfl) ?_;refine nt (ci h (λh=>?_) (λh=>?_))
   .refine sr (cq ?_);refine cq ?_;refine cq (nt (rx ?_));refine bU (eA (t:=(.slice (.int .u8))) (x:=([]:(List Int))) 9 rfl .nil rfl rfl) ?_;cases h;exact aO (0,0) [.eq (.pointer none),_,_] 0 ⟨rfl,rfl,rfl,trivial⟩ rfl
   .refine sk (sr ?_);iterate 2 refine mq ?_
    refine aq ?_;refine aq ?_;refine cq (nt (aA ?_));cases h;exact aO (z4.1,z4.2) [.eq (.pointer (some ⟨z4.1,0,none⟩)),_,_] 2 ⟨rfl,rfl,rfl,trivial⟩ rfl
def dF(k:Nat)(a2:Int)(r1:(List (List Int)))(x5:Int):Nat->Int->Option (Except Int Unit)
 |0,_=>none
 |n+1,y6=>
  if y6 < x5 then((aQ r1 y6).bind λx8=>
  (aQ x8 a2).bind λx9=>
  if 0≤x9 then(some (.error y6)) else((ck (y6+1)).bind λc=>
  dF k a2 r1 x5 n c)) else(some (.ok ()))
def dV(k:Nat)(a0:ae)(a1:Int)(a2:Int):Option Int:=
 (lq k a0 a1).bind λr1=>
 bE (α:=Unit) ((ck ((a0.2.2.2.2.1.length:Int)+1)).bind λx5=>
 dF k a2 r1 x5 k 0) (some) λ_=>
 some (-1:Int)
theorem ip(k:Nat)(a0:ae)(c z_a0:Nat)(a1:Int)(a2:Int)(r:Int)(h:dV k a0 a1 a2=some r):
 bW (dP Tryz.prog) 44 [Pt c,.eq (.int .u8 a1),I a2] [.obj c 129 (aN a0 z_a0),.inv z_a0 (bQ k a0)] (λ_:Unit=>(bI [I r],[.obj c 129 (aN a0 z_a0),.inv z_a0 (bQ k a0)])):=by
 unfold dV at h
 replace h:=bi h
 refine bW.of 30 Tryz.func44 rfl Tryz.ntmps44 rfl λS w0=>?_
 refine sr ?_
 refine cq ?_
 refine nt ?_
 refine sr ?_
 iterate 2 refine mq ?_
 obtain⟨r1,D,h⟩:=aa h
 have E:=oQ k a0 c z_a0 a1 r1 D
 refine fr 1 ?_
 refine fr 1 ?_
 refine aI (Δ:=[_,_]) (F:=_) (λ_ _ _=>ag rfl _) rfl rfl (aS [.tmp 9,.tmp 10] rfl rfl Eo rfl E) ⟨rfl,rfl,trivial⟩ λ_=>?_
 refine aX rfl rfl rfl (bo rfl E4 Ii) trivial λb2=>?_
 refine aP rfl rfl (aM rfl FT rfl rfl rfl) ⟨rfl,rfl,trivial⟩ ?_
 refine fg (jo (t:=(.arr 7 Tr)) (x:=r1) [7] .rep ⟨rfl,trivial⟩) ?_
 refine nt ?_
 refine du (Z:=Unit) (α:=Unit) (λz4 x3=>[]) (λz4 x3=>[.obj c 129 (aN a0 z_a0),.inv z_a0 (bQ k a0)]) (λe=>e=r) h (λe h=>Option.some.inj h) (λK hR h=>?_) (λz4 x3 h=>?_)
 .
  refine sr (mq ?_);refine ja (cJ rfl) ?_;refine fl gJ ?_;refine fl eI ?_;refine lo lC ?_;refine ol Aj ?_;obtain⟨x5,y,h⟩:=aa h;refine jb (bu rfl y) ?_;refine eG rfl ?_;refine nt (aj (aE (λz7 y6=>[(2,I a2),(7,.at (.arr 7 Tr) r1),(18,I x5),(19,I y6)]) (λz7 y6=>[.obj c 129 (aN a0 z_a0),.inv z_a0 (bQ k a0)]) (dF k a2 r1 x5) k () 0 (λ_=>rfl) h (SE.fin [0,1] ⟨rfl,rfl,rfl,rfl,trivial⟩ rfl) (λn z7 y6 h=>?_)));unfold dF at h;refine sr (jb (bH rfl) ?_);refine nt (ak (ci h (λh=>?_) (λh=>?_)))
  .refine sk (ak (aj (sr (mq ?_))));refine aq (nt (sr ?_));iterate 2 refine mq ?_
   obtain⟨x8,u,h⟩:=aa h;refine jb (co (t:=Tr) rfl IX iY u) ?_;obtain⟨x9,s,h⟩:=aa h;refine jb (co (t:=Ti) rfl BD cL s) ?_;refine ja (au (t:=Ti) rfl cL rfl) ?_;refine jb (i7 rfl) ?_;refine nt (ci h (λh=>?_) (λh=>?_))
   .refine sr (mq ?_);refine aq (nt (aA (br (ba (aW ?_)))));obtain rfl:=hR _ h;exact aO () [_] 2 ⟨rfl,trivial⟩ rfl
   .refine bf (aR (tn (ab ?_)));obtain⟨l,j,h⟩:=aa h;refine jb (bu rfl j) ?_;refine mq (nl ?_);exact jz ((),l) h [0,1]
  .refine xa ?_;exact jz ((),()) h [0,1]
 .
  refine sr (cq (nt (aA ?_)));cases h;exact aO () [_] 2 ⟨rfl,trivial⟩ rfl
def kz(k:Nat)(a1:Int)(r3:(Option ae)×(List Int)×Int)(q4:ae):Nat->((List Int)×Int)->Option (List Int)
 |0,_=>none
 |n+1,y8=>
  if y8.2 < (r3.2.1.length:Int) then((((aQ r3.2.1 y8.2).bind λh=>
  (dV k q4 h a1).bind λc=>
  if 0≤c then((cK (cf (length y8.1+length [c]))).bind λ_=>
  some (y8.1++[c])) else(some y8.1)):Option ((List Int))).bind λj=>
  (ck (y8.2+1)).bind λe=>
  kz k a1 r3 q4 n (j,e)) else(some y8.1)
def rT(k:Nat)(a0:ae)(a1:Int):Option (fA×Int):=
 (iy k a0 [a1] ([]:(List Int)) ([]:(List Int))).bind λr3=>
 fQ r3.1 (if¬(r3.2.2=0) then(some ((0,0),r3.2.2)) else(none)) (λq4=>if¬(r3.2.2=0) then(some ((0,0),r3.2.2)) else(((kz k a1 r3 q4 k (([]:(List Int)),0)):Option ((List Int))).bind λx6=>
 if(x6.length:Int)=0 then(some ((0,0),11)) else((lH k x6).bind λe=>
 (nK k x6).bind λc=>
 some ((e,c),0))))
theorem xg(k:Nat)(a0:ae)(a1:Int)(r:fA×Int)(h:rT k a0 a1=some r):
 bW (dP Tryz.prog) 16 [.rep ap a0,I a1] [] (λ_:Unit=>(bI [.rep bL r.1,I r.2],[])):=by
 unfold rT at h
 replace h:=bi h
 refine bW.of 51 Tryz.func16 rfl Tryz.ntmps16 rfl λS w0=>?_
 refine sr ?_
 refine bx λb1=>?_
 refine aX rfl rfl rfl (bo rfl Ak QO) trivial λb2=>?_
 refine cq ?_
 refine nt ?_
 refine sr ?_
 refine fr 1 ?_
 refine lo im ?_
 refine mq ?_
 refine ja (bg (t:=Ti) [(.tmp 15,_)] [a1] rfl rfl dR (.cons rfl .int .nil) rfl rfl) ?_
 obtain⟨r3,Y,h⟩:=aa h
 have s:=kx k a0 [a1] ([]:(List Int)) ([]:(List Int)) r3 Y
 rcases hr:r3.1 with _ |q4
 .
  rw [hr] at h s;replace h:=uC h;refine aI (Δ:=[]) (F:=_) (λ_ _ _=>ag rfl _) rfl rfl (bT (N:=[(.tmp 14,.rep ap a0),(.tmp 16,.rep Tl [a1]),(.const (.slice none 0 0),.eq (.slice none 0 0)),(.const (.slice none 0 0),.eq (.slice none 0 0))]) (aS [.tmp 14,.tmp 16,.const (.slice none 0 0),.const (.slice none 0 0)] rfl rfl zt rfl s) λ_ _ _ hn=>⟨hn.1,hn.2.1,(aF (t:=Tl) (x:=([]:(List Int))) .nil rfl rfl hn.2.2.1),(aF (t:=Tl) (x:=([]:(List Int))) .nil rfl rfl hn.2.2.2.1),trivial⟩) ⟨rfl,rfl,rfl,rfl,trivial⟩ λ_=>?_;refine mq ?_;refine xr ?_;refine xr ?_;refine xr ?_;refine aq ?_;refine aq ?_;refine aq (nt (ak (sr ?_)));refine mq ?_;refine jb (eQ rfl) ?_;refine nt (cn h (λh=>?_) (λh=>?_))
  .refine sr (bY rfl (dY [] rfl Gu Ak zO (jC trivial) rfl) trivial ?_);refine mq ?_;refine fr 1 ?_;refine aP rfl rfl (aM rfl vg trivial rfl rfl) ⟨rfl,rfl,trivial⟩ ?_;refine aq (nt (rx ?_));refine bU (ik (a:=.agg (.pair (I 0) (I 0))) (a':=.rep bL (0,0)) (jr (.agg (.pair .int .int)))) ?_;cases h;exact aO () [.rep bL (0,0),_] 0 ⟨⟨_,_,_,_,_,rfl,(.head _),vg,(tj),rfl⟩,rfl,trivial⟩ rfl
  .cases h
 .
  rw [hr] at h s;replace h:=uB h;refine aI (Δ:=[]) (F:=_) (λ_ _ _=>ag rfl _) rfl rfl (bT (N:=[(.tmp 14,.rep ap a0),(.tmp 16,.rep Tl [a1]),(.const (.slice none 0 0),.eq (.slice none 0 0)),(.const (.slice none 0 0),.eq (.slice none 0 0))]) (aS [.tmp 14,.tmp 16,.const (.slice none 0 0),.const (.slice none 0 0)] rfl rfl zt rfl s) λ_ _ _ hn=>⟨hn.1,hn.2.1,(aF (t:=Tl) (x:=([]:(List Int))) .nil rfl rfl hn.2.2.1),(aF (t:=Tl) (x:=([]:(List Int))) .nil rfl rfl hn.2.2.2.1),trivial⟩) ⟨rfl,rfl,rfl,rfl,trivial⟩ λz5=>?_;refine mq ?_;refine xr ?_;refine xr ?_;refine xr ?_;refine aq ?_;refine aq ?_;refine aq (nt (ak (sr ?_)));refine mq ?_;refine jb (eQ rfl) ?_;refine nt (cn h (λh=>?_) (λh=>?_))
  .refine sr (bY rfl (dY [] rfl Gu Ak zO (jC trivial) rfl) trivial ?_);refine mq ?_;refine fr 3 ?_;refine aP rfl rfl (aM rfl vg trivial rfl rfl) ⟨rfl,rfl,trivial⟩ ?_;refine aq (nt (rx ?_));refine bU (ik (a:=.agg (.pair (I 0) (I 0))) (a':=.rep bL (0,0)) (jr (.agg (.pair .int .int)))) ?_;cases h;exact aO () [.rep bL (0,0),_] 0 ⟨⟨_,_,_,_,_,rfl,(.head _),vg,(tj),rfl⟩,rfl,trivial⟩ rfl
  .refine sk (sr (cq (nt ?_)));refine aG (Z:=Value) (α:=(List Int)) (λz7 x6=>[(4,Pt b2),(9,.eq z7)]) (λz7 x6=>[.obj b2 39 (.agg (.pair (I 0) (I 0))),.sl z7 3 Ti x6,.inv z5.2 (bQ k q4)]) h (λK h=>?_) (λz7 x6 h=>?_)
   .refine sr (mq ?_);refine ol yg ?_;refine eG rfl ?_;refine nt (aj (jd (SE.nil 3 Ti) ?_));refine aE (λz9 y8=>[(1,I a1),(4,Pt b2),(6,.eq (.pointer (some ⟨z5.1,0,none⟩))),(9,.eq z9),(25,.rep (.slice (.int .u8)) r3.2.1),(26,I (r3.2.1.length:Int)),(27,I y8.2)]) (λz9 y8=>[.obj b2 39 (.agg (.pair (I 0) (I 0))),.obj z5.1 129 (aN q4 z5.2),.sl z9 3 Ti y8.1,.inv z5.2 (bQ k q4)]) (kz k a1 r3 q4) k (.slice none 0 0) (([]:(List Int)),0) (λ_=>rfl) h (SE.fin [4,1,0,2] ⟨rfl,rfl,rfl,rfl,rfl,rfl,rfl,trivial⟩ rfl) (λn z9 y8 h=>?_);unfold kz at h;refine sr (jb (bH rfl) ?_);refine nt (ak (ci h (λh=>?_) (λh=>?_)))
    .refine sk (aG (Z:=Value) (α:=(List Int)) (λc e=>[(1,I a1),(4,Pt b2),(6,.eq (.pointer (some ⟨z5.1,0,none⟩))),(9,.eq c),(25,.rep (.slice (.int .u8)) r3.2.1),(26,I (r3.2.1.length:Int)),(27,I y8.2)]) (λc e=>[.obj b2 39 (.agg (.pair (I 0) (I 0))),.obj z5.1 129 (aN q4 z5.2),.sl c 3 Ti e,.inv z5.2 (bQ k q4)]) h (λK h=>?_) (λc e h=>?_))
     .refine aj (sr ?_);obtain⟨U,D,h⟩:=aa h;refine jb (aY (t:=(.int .u8)) rfl yg nG D) ?_;refine ja (au (t:=(.int .u8)) rfl nG rfl) ?_;refine aq (nt (sr ?_));iterate 3 refine mq ?_
      obtain⟨u,O,h⟩:=aa h;refine fr 3 ?_;refine fr 2 ?_;refine aI (Δ:=[_,_]) (F:=_) (λ_ _ _=>ag rfl _) rfl rfl (aS [.tmp 31,.tmp 32,.tmp 33] rfl rfl On rfl (ip k q4 z5.1 z5.2 U a1 u O)) ⟨rfl,rfl,rfl,trivial⟩ λ_=>?_;refine aq (nt (sr ?_));refine mq ?_;refine jb (i7 rfl) ?_;refine nt (ci h (λh=>?_) (λh=>?_))
      .refine ab ?_;iterate 2 refine mq ?_
       refine ja (bg (t:=Ti) [(.tmp 38,_)] [u] rfl rfl dR (.cons rfl .int .nil) rfl rfl) ?_;obtain⟨gw,E,h⟩:=aa h;refine fr 3 ?_;refine eK rfl rfl rfl (cN rfl rfl dR (am E)) ⟨rfl,rfl,trivial⟩ λX=>?_;refine aq (aC (bn ?_));exact jz (X,y8.1++[u]) h [3,1,0,2]
      .refine bf (bn ?_);exact jz (z9,y8.1) h [2,0,3,1]
     .refine ab ?_;obtain⟨Q,y,h⟩:=aa h;refine jb (bu rfl y) ?_;refine mq (nl ?_);exact jz (c,(e,Q)) h [0,1,2,3]
    .refine xa ?_;exact jz (z9,y8.1) h [0,2,3]
   .refine ak (sr (mq ?_));refine fr 1 ?_;refine ka (kH rfl rfl iv) ?_;refine jb (i8 rfl) ?_;refine nt (ci h (λh=>?_) (λh=>?_))
    .refine sr (bY rfl (dY [] rfl Gu Ak zO (jC trivial) rfl) trivial ?_);refine fr 1 ?_;refine aP rfl rfl (aM rfl vg trivial rfl rfl) ⟨rfl,rfl,trivial⟩ ?_;refine cq (nt (rx ?_));refine bU (ik (a:=.agg (.pair (I 0) (I 0))) (a':=.rep bL (0,0)) (jr (.agg (.pair .int .int)))) ?_;cases h;exact aO () [.rep bL (0,0),_] 0 ⟨⟨_,_,_,_,_,rfl,(.head _),vg,(tj),rfl⟩,rfl,trivial⟩ rfl
    .refine sk (sr (mq ?_));obtain⟨l,M,h⟩:=aa h;refine ka (lx (N:=[(.tmp 46,.eq z7)]) (av [.tmp 46] rfl rfl Qz rfl (nJ k x6 l M)) (λ_ _ _ hv hn=>⟨(lend hn.1 hv),trivial⟩) (λ_=>⟨rfl,oe⟩)) ?_;refine mq ?_;obtain⟨j,J,h⟩:=aa h;refine ka (lx (N:=[(.tmp 48,.eq z7)]) (av [.tmp 48] rfl rfl SX rfl (tN k x6 j J)) (λ_ _ _ hv hn=>⟨(lend hn.1 hv),trivial⟩) (λ_=>⟨rfl,oe⟩)) ?_;refine jb (dY [(0,.tmp 47,_),(1,.tmp 49,_)] rfl Gu Ak zO (jC ⟨rfl,rfl,trivial⟩) rfl) ?_;refine fr 1 ?_;refine aP rfl rfl (aM rfl vg trivial rfl rfl) ⟨rfl,rfl,trivial⟩ ?_;refine cq (nt (aA ?_));refine bU (ik (a:=.agg (.pair (I l) (I j))) (a':=.rep bL (l,j)) (jr (.agg (.pair .int .int)))) ?_;cases h;exact aO () [.rep bL (l,j),_] 0 ⟨⟨_,_,_,_,_,rfl,(.head _),vg,(tj),rfl⟩,rfl,trivial⟩ rfl
def jv(k:Nat)(a1:Int)(a2:Int)(y4:(List (List (List Int)))×Int)(h:(List Int)):Nat->((List Int)×Int)->Option (List Int)
 |0,_=>none
 |n+1,c=>
  if c.2 < (h.length:Int) then((((aQ h c.2).bind λe=>
  ((if y4.2 < a1 then(some true) else((eU k a2 e).bind λs=>
  some (!s))):Option (Bool)).bind λl=>
  if l=true then((cK (cf (length c.1+length [e]))).bind λ_=>
  some (c.1++[e])) else(some c.1)):Option ((List Int))).bind λr=>
  (ck (c.2+1)).bind λj=>
  jv k a1 a2 y4 h n (r,j)) else(some c.1)
def jw(k:Nat)(a1:Int)(a2:Int)(y4:(List (List (List Int)))×Int)(x8:(List (List Int))):Nat->((List (List Int))×Int)->Option (List (List Int))
 |0,_=>none
 |n+1,c=>
  if c.2 < (x8.length:Int) then((((aQ x8 c.2).bind λj=>
  ((jv k a1 a2 y4 j k (([]:(List Int)),0)):Option ((List Int))).bind λe=>
  (cK (cf (length c.1+length [e]))).bind λ_=>
  some (c.1++[e])):Option ((List (List Int)))).bind λl=>
  (ck (c.2+1)).bind λh=>
  jw k a1 a2 y4 x8 n (l,h)) else(some c.1)
def jx(k:Nat)(a0:ae)(a1:Int)(a2:Int):Nat->((List (List (List Int)))×Int)->Option (List (List (List Int)))
 |0,_=>none
 |n+1,y4=>
  if y4.2 < (a0.2.2.2.2.1.length:Int) then((((aQ a0.2.2.2.2.1 y4.2).bind λx8=>
  ((jw k a1 a2 y4 x8 k (([]:(List (List Int))),0)):Option ((List (List Int)))).bind λx9=>
  (cK (cf (length y4.1+length [x9]))).bind λ_=>
  some (y4.1++[x9])):Option ((List (List (List Int))))).bind λx6=>
  (ck (y4.2+1)).bind λc=>
  jx k a0 a1 a2 n (x6,c)) else(some y4.1)
def mR(k:Nat)(a0:ae)(a1:Int)(a2:Int):Option (Option ae):=
 ((jx k a0 a1 a2 k (([]:(List (List (List Int)))),0)):Option ((List (List (List Int))))).bind λx2=>
 (iM k (a0.1,a0.2.1,a0.2.2.1,a0.2.2.2.1,x2,a0.2.2.2.2.2)).bind λc=>
 fQ c (some none) (λe=>some (some e))
theorem vp(k:Nat)(a0:ae)(a1:Int)(a2:Int)(r:(Option ae))(h:mR k a0 a1 a2=some r):
 dH Tryz.prog 53 [.rep ap a0,I a1,.eq (.int .u8 a2)] [] (λz:Nat×Nat=>(bI [JH r z.1],JG r λq=>qg q z.1 z.2 k)):=by
 unfold mR at h
 replace h:=bi h
 refine dH.of 69 Tryz.func53 rfl Tryz.ntmps53 rfl λS w0=>?_
 refine sr ?_
 refine bx λb1=>?_
 refine cq ?_
 refine nt ?_
 refine sr ?_
 refine fl eI ?_
 refine lo lC ?_
 refine mq ?_
 refine ja (rI [.tmp 19] [] [(.int .u8 a2)] [] rfl rfl rfl) ?_
 refine aq ?_
 refine aq ?_
 refine nt ?_
 refine sr ?_
 refine fl eI ?_
 refine aP rfl rfl (aM rfl lC rfl rfl rfl) ⟨rfl,rfl,trivial⟩ ?_
 refine nt ?_
 refine aG (Z:=Value) (α:=(List (List (List Int)))) (λz3 x2=>[(3,Pt b1)]) (λz3 x2=>[.obj b1 26 (.agg (.pair (I a0.1) (.pair (I a0.2.1) (.pair (I a0.2.2.1) (.pair (I a0.2.2.2.1) (.pair (.eq z3) (Rs bb a0.2.2.2.2.2))))))),.sl z3 30 (.slice Tl) x2]) h (λK h=>?_) (λz3 x2 h=>?_)
 .
  refine sr (mq ?_);refine ol Aj ?_;refine eG rfl ?_;refine nt (aj (jd (SE.nil 30 (.slice Tl)) ?_));refine dQ 1 rfl ?_;refine jd (ik (a:=.agg (.pair (.rep Ti a0.1) (.pair (.rep Ti a0.2.1) (.pair (.rep Ti a0.2.2.1) (.pair (.rep Ti a0.2.2.2.1) (.pair (.eq (.slice none 0 0)) (Rs bb a0.2.2.2.2.2))))))) (a':=.agg (.pair (I a0.1) (.pair (I a0.2.1) (.pair (I a0.2.2.1) (.pair (I a0.2.2.2.1) (.pair (.eq (.slice none 0 0)) (Rs bb a0.2.2.2.2.2))))))) (AE.agg (AE.pair AE.int (AE.pair AE.int (AE.pair AE.int (AE.pair AE.int AE.rfl)))))) ?_;refine aE (λz5 y4=>[(1,I a1),(3,Pt b1),(8,.eq (.func (.func 75) #[(.int .u8 a2)] #[])),(22,.rep (.slice (.slice Tl)) a0.2.2.2.2.1),(23,I (a0.2.2.2.2.1.length:Int)),(24,I y4.2)]) (λz5 y4=>[.obj b1 26 (.agg (.pair (I a0.1) (.pair (I a0.2.1) (.pair (I a0.2.2.1) (.pair (I a0.2.2.2.1) (.pair (.eq z5) (Rs bb a0.2.2.2.2.2))))))),.sl z5 30 (.slice Tl) y4.1]) (jx k a0 a1 a2) k (.slice none 0 0) (([]:(List (List (List Int)))),0) (λ_=>rfl) h (SE.fin [0,1] ⟨rfl,rfl,rfl,rfl,rfl,rfl,trivial⟩ rfl) (λn z5 y4 h=>?_);unfold jx at h;refine sr (jb (bH rfl) ?_);refine nt (ak (ci h (λh=>?_) (λh=>?_)))
  .refine sk (aG (Z:=Value) (α:=(List (List (List Int)))) (λz7 x6=>[(1,I a1),(3,Pt b1),(8,.eq (.func (.func 75) #[(.int .u8 a2)] #[])),(22,.rep (.slice (.slice Tl)) a0.2.2.2.2.1),(23,I (a0.2.2.2.2.1.length:Int)),(24,I y4.2)]) (λz7 x6=>[.obj b1 26 (.agg (.pair (I a0.1) (.pair (I a0.2.1) (.pair (I a0.2.2.1) (.pair (I a0.2.2.2.1) (.pair (.eq z7) (Rs bb a0.2.2.2.2.2))))))),.sl z7 30 (.slice Tl) x6]) h (λK h=>?_) (λz7 x6 h=>?_))
   .refine aj (sr (mq ?_));obtain⟨x8,UE,h⟩:=aa h;refine jb (aY (t:=(.slice Tl)) rfl Aj yC UE) ?_;refine ja (au (t:=(.slice Tl)) rfl yC rfl) ?_;refine aq ?_;refine aq (nt (sr ?_));refine cq (nt ?_);refine aG (Z:=Value) (α:=(List (List Int))) (λQ x9=>[(1,I a1),(3,Pt b1),(8,.eq (.func (.func 75) #[(.int .u8 a2)] #[])),(11,.eq Q),(22,.rep (.slice (.slice Tl)) a0.2.2.2.2.1),(23,I (a0.2.2.2.2.1.length:Int)),(24,I y4.2)]) (λQ x9=>[.obj b1 26 (.agg (.pair (I a0.1) (.pair (I a0.2.1) (.pair (I a0.2.2.1) (.pair (I a0.2.2.2.1) (.pair (.eq z5) (Rs bb a0.2.2.2.2.2))))))),.sl z5 30 (.slice Tl) y4.1,.sl Q 22 Tl x9]) h (λK h=>?_) (λQ x9 h=>?_)
    .refine sr (mq ?_);refine ol qX ?_;refine eG rfl ?_;refine nt (aj (jd (SE.nil 22 Tl) ?_));refine aE (λe c=>[(1,I a1),(3,Pt b1),(8,.eq (.func (.func 75) #[(.int .u8 a2)] #[])),(9,I y4.2),(11,.eq e),(22,.rep (.slice (.slice Tl)) a0.2.2.2.2.1),(23,I (a0.2.2.2.2.1.length:Int)),(24,I y4.2),(29,.rep (.slice Tl) x8),(30,I (x8.length:Int)),(31,I c.2)]) (λe c=>[.obj b1 26 (.agg (.pair (I a0.1) (.pair (I a0.2.1) (.pair (I a0.2.2.1) (.pair (I a0.2.2.2.1) (.pair (.eq z5) (Rs bb a0.2.2.2.2.2))))))),.sl z5 30 (.slice Tl) y4.1,.sl e 22 Tl c.1]) (jw k a1 a2 y4 x8) k (.slice none 0 0) (([]:(List (List Int))),0) (λ_=>rfl) h (SE.fin [1,2,0] ⟨rfl,rfl,rfl,rfl,rfl,rfl,rfl,rfl,rfl,rfl,rfl,trivial⟩ rfl) (λn e c h=>?_);unfold jw at h;refine sr (jb (bH rfl) ?_);refine nt (ak (ci h (λh=>?_) (λh=>?_)))
     .refine sk (aG (Z:=Value) (α:=(List (List Int))) (λE X=>[(1,I a1),(3,Pt b1),(8,.eq (.func (.func 75) #[(.int .u8 a2)] #[])),(9,I y4.2),(11,.eq E),(22,.rep (.slice (.slice Tl)) a0.2.2.2.2.1),(23,I (a0.2.2.2.2.1.length:Int)),(24,I y4.2),(29,.rep (.slice Tl) x8),(30,I (x8.length:Int)),(31,I c.2)]) (λE X=>[.obj b1 26 (.agg (.pair (I a0.1) (.pair (I a0.2.1) (.pair (I a0.2.2.1) (.pair (I a0.2.2.2.1) (.pair (.eq z5) (Rs bb a0.2.2.2.2.2))))))),.sl z5 30 (.slice Tl) y4.1,.sl E 22 Tl X]) h (λK h=>?_) (λE X h=>?_))
      .refine aj (sr ?_);obtain⟨u,Ur,h⟩:=aa h;refine jb (aY (t:=Tl) rfl qX iF Ur) ?_;refine ja (au (t:=Tl) rfl iF rfl) ?_;refine aq (nt (sr ?_));refine cq (nt ?_);refine aG (Z:=Value) (α:=(List Int)) (λO M=>[(1,I a1),(3,Pt b1),(8,.eq (.func (.func 75) #[(.int .u8 a2)] #[])),(9,I y4.2),(11,.eq e),(14,.eq O),(22,.rep (.slice (.slice Tl)) a0.2.2.2.2.1),(23,I (a0.2.2.2.2.1.length:Int)),(24,I y4.2),(29,.rep (.slice Tl) x8),(30,I (x8.length:Int)),(31,I c.2)]) (λO M=>[.obj b1 26 (.agg (.pair (I a0.1) (.pair (I a0.2.1) (.pair (I a0.2.2.1) (.pair (I a0.2.2.2.1) (.pair (.eq z5) (Rs bb a0.2.2.2.2.2))))))),.sl z5 30 (.slice Tl) y4.1,.sl e 22 Tl c.1,.sl O 3 Ti M]) h (λK h=>?_) (λO M h=>?_)
       .refine sr (mq ?_);refine ol iv ?_;refine eG rfl ?_;refine nt (aj (jd (SE.nil 3 Ti) ?_));refine aE (λl j=>[(1,I a1),(3,Pt b1),(8,.eq (.func (.func 75) #[(.int .u8 a2)] #[])),(9,I y4.2),(11,.eq e),(14,.eq l),(22,.rep (.slice (.slice Tl)) a0.2.2.2.2.1),(23,I (a0.2.2.2.2.1.length:Int)),(24,I y4.2),(29,.rep (.slice Tl) x8),(30,I (x8.length:Int)),(31,I c.2),(35,.rep Tl u),(36,I (u.length:Int)),(37,I j.2)]) (λl j=>[.obj b1 26 (.agg (.pair (I a0.1) (.pair (I a0.2.1) (.pair (I a0.2.2.1) (.pair (I a0.2.2.2.1) (.pair (.eq z5) (Rs bb a0.2.2.2.2.2))))))),.sl z5 30 (.slice Tl) y4.1,.sl e 22 Tl c.1,.sl l 3 Ti j.1]) (jv k a1 a2 y4 u) k (.slice none 0 0) (([]:(List Int)),0) (λ_=>rfl) h (SE.fin [1,2,3,0] ⟨rfl,rfl,rfl,rfl,rfl,rfl,rfl,rfl,rfl,rfl,rfl,rfl,rfl,rfl,rfl,trivial⟩ rfl) (λn l j h=>?_);unfold jv at h;refine sr (jb (bH rfl) ?_);refine nt (ak (ci h (λh=>?_) (λh=>?_)))
        .refine sk (aG (Z:=Value) (α:=(List Int)) (λD U=>[(1,I a1),(3,Pt b1),(8,.eq (.func (.func 75) #[(.int .u8 a2)] #[])),(9,I y4.2),(11,.eq e),(14,.eq D),(22,.rep (.slice (.slice Tl)) a0.2.2.2.2.1),(23,I (a0.2.2.2.2.1.length:Int)),(24,I y4.2),(29,.rep (.slice Tl) x8),(30,I (x8.length:Int)),(31,I c.2),(35,.rep Tl u),(36,I (u.length:Int)),(37,I j.2)]) (λD U=>[.obj b1 26 (.agg (.pair (I a0.1) (.pair (I a0.2.1) (.pair (I a0.2.2.1) (.pair (I a0.2.2.2.1) (.pair (.eq z5) (Rs bb a0.2.2.2.2.2))))))),.sl z5 30 (.slice Tl) y4.1,.sl e 22 Tl c.1,.sl D 3 Ti U]) h (λK h=>?_) (λD U h=>?_))
         .refine aj (sr ?_);obtain⟨J,Up,h⟩:=aa h;refine jb (aY (t:=Ti) rfl iv cL Up) ?_;refine ja (au (t:=Ti) rfl cL rfl) ?_;refine aq (nt ?_);refine aG (Z:=Unit) (α:=Bool) (λmc gw=>[(1,I a1),(3,Pt b1),(8,.eq (.func (.func 75) #[(.int .u8 a2)] #[])),(9,I y4.2),(11,.eq e),(14,.eq l),(16,I J),(22,.rep (.slice (.slice Tl)) a0.2.2.2.2.1),(23,I (a0.2.2.2.2.1.length:Int)),(24,I y4.2),(29,.rep (.slice Tl) x8),(30,I (x8.length:Int)),(31,I c.2),(35,.rep Tl u),(36,I (u.length:Int)),(37,I j.2),(49,.eq (.bool gw))]) (λmc gw=>[.obj b1 26 (.agg (.pair (I a0.1) (.pair (I a0.2.1) (.pair (I a0.2.2.1) (.pair (I a0.2.2.2.1) (.pair (.eq z5) (Rs bb a0.2.2.2.2.2))))))),.sl z5 30 (.slice Tl) y4.1,.sl e 22 Tl c.1,.sl l 3 Ti j.1]) h (λK h=>?_) (λmc gw h=>?_)
          .refine ab ?_;iterate 2 refine mq ?_
           refine jb (bH rfl) ?_;refine mq ?_;refine cT (s:=44) rfl (λhb=>?_) (λhb=>?_)
           .replace h:=fR (wu hb) h;iterate 4 refine gn ?_
            refine pt (nl ?_);exact jz ((),true) h [0,1,2,3]
           .replace h:=dr (wv hb) h;refine gm ?_;refine gm ?_;obtain⟨qt,Ux,h⟩:=aa h;refine gb (tg (fs:=[(.int .u8 a2)]) (cs:=[]) (ags:=[I J]) [.tmp 46] rfl rfl HY rfl (gu k a2 J qt Ux)) ?_;refine ga (iK rfl) ?_;refine pf (nl ?_);exact jz ((), !qt) h [0,1,2,3]
          .refine cv h (λh=>?_) (λh=>?_)
           .refine ab ?_;iterate 2 refine mq ?_
            refine ja (bg (t:=Ti) [(.tmp 51,_)] [J] rfl rfl dR (.cons rfl .int .nil) rfl rfl) ?_;obtain⟨UG,Uu,h⟩:=aa h;refine fr 3 ?_;refine eK rfl rfl rfl (cN rfl rfl dR (am Uu)) ⟨rfl,rfl,trivial⟩ λUD=>?_;refine aq (aC (bn ?_));exact jz (UD,j.1++[J]) h [1,2,3,0]
           .refine bf (bn ?_);exact jz (l,j.1) h [0,1,2,3]
         .refine ab ?_;obtain⟨UA,Uo,h⟩:=aa h;refine jb (bu rfl Uo) ?_;refine mq (nl ?_);exact jz (D,(U,UA)) h [0,1,2,3]
        .refine xa ?_;exact jz (l,j.1) h [0,1,2,3]
       .refine ab ?_;iterate 2 refine mq ?_
        refine fr 3 ?_;refine fg (jp [14,56] ⟨rfl,rfl,trivial⟩) ?_;refine ja (bg (t:=Tl) [(.tmp 56,_)] [M] rfl rfl o8 (.cons rfl .rep .nil) rfl rfl) ?_;obtain⟨UF,Ut,h⟩:=aa h;refine fr 2 ?_;refine eK rfl rfl rfl (cN rfl rfl o8 (am Ut)) ⟨rfl,rfl,trivial⟩ λUC=>?_;refine aq (aC (bn ?_));exact jz (UC,c.1++[M]) h [1,2,0]
      .refine ab ?_;obtain⟨Uz,Un,h⟩:=aa h;refine jb (bu rfl Un) ?_;refine mq (nl ?_);exact jz (E,(X,Uz)) h [0,1,2]
     .refine xa ?_;exact jz (e,c.1) h [0,1,2]
    .refine ab (fl eI ?_);refine lo lC ?_;refine mq ?_;refine fr 2 ?_;refine fg (jp [11,62] ⟨rfl,rfl,trivial⟩) ?_;refine ja (bg (t:=(.slice Tl)) [(.tmp 62,_)] [x9] rfl rfl AC (.cons rfl .rep .nil) rfl rfl) ?_;obtain⟨u32,Us,h⟩:=aa h;refine fr 1 ?_;refine eK rfl rfl rfl (cN rfl rfl AC (am Us)) ⟨rfl,rfl,trivial⟩ λUB=>?_;refine fl eI ?_;refine sJ λo34=>?_;refine fr 1 ?_;refine aP rfl rfl (aM rfl lC o34 rfl rfl) ⟨rfl,rfl,trivial⟩ ?_;refine aC (bn ?_);exact jz (UB,y4.1++[x9]) h [0,1]
   .refine ab ?_;obtain⟨Uy,zz,h⟩:=aa h;refine jb (bu rfl zz) ?_;refine mq (nl ?_);exact jz (z7,(x6,Uy)) h [0,1]
  .refine xa ?_;exact jz (z5,y4.1) h [0,1]
 .
  refine sr (fr 1 ?_);refine fg (nf (off:=4) [] trivial rfl rfl) ?_;refine lo im ?_;obtain⟨mw,Uw,h⟩:=aa h;have y:=nm k (a0.1,a0.2.1,a0.2.2.1,a0.2.2.2.1,x2,a0.2.2.2.2.2) mw Uw;rcases hr:mw with _ |UH
  .rw [hr] at h y;replace h:=uC h;refine aI (Δ:=[]) (F:=_) (λ_ _ _=>ag rfl _) rfl rfl (bT (N:=[(.tmp 67,.agg (.pair (I a0.1) (.pair (I a0.2.1) (.pair (I a0.2.2.1) (.pair (I a0.2.2.2.1) (.pair (.rep (.slice (.slice Tl)) x2) (Rs bb a0.2.2.2.2.2)))))))]) (av [.tmp 67] rfl rfl KW rfl y) λ_ _ _ hn=>⟨(aF (t:=ap) (x:=(a0.1,a0.2.1,a0.2.2.1,a0.2.2.2.1,x2,a0.2.2.2.2.2)) (.agg (.pair .int (.pair .int (.pair .int (.pair .int (.pair .rep .rep)))))) trivial rfl hn.1),trivial⟩) ⟨rfl,trivial⟩ λ_=>?_;refine aq (nt (aA ?_));cases h;exact aO (0,0) [.eq (.pointer none)] 0 ⟨rfl,trivial⟩ rfl
  .rw [hr] at h y;replace h:=uB h;refine aI (Δ:=[]) (F:=_) (λ_ _ _=>ag rfl _) rfl rfl (bT (N:=[(.tmp 67,.agg (.pair (I a0.1) (.pair (I a0.2.1) (.pair (I a0.2.2.1) (.pair (I a0.2.2.2.1) (.pair (.rep (.slice (.slice Tl)) x2) (Rs bb a0.2.2.2.2.2)))))))]) (av [.tmp 67] rfl rfl KW rfl y) λ_ _ _ hn=>⟨(aF (t:=ap) (x:=(a0.1,a0.2.1,a0.2.2.1,a0.2.2.2.1,x2,a0.2.2.2.2.2)) (.agg (.pair .int (.pair .int (.pair .int (.pair .int (.pair .rep .rep)))))) trivial rfl hn.1),trivial⟩) ⟨rfl,trivial⟩ λY=>?_;refine aq (nt (aA ?_));cases h;exact aO (Y.1,Y.2) [.eq (.pointer (some ⟨Y.1,0,none⟩))] 2 ⟨rfl,trivial⟩ rfl
def eW(k:Nat)(a0:ae)(r1:(List (List Int)))(y5:Int):Nat->Int->Option (Except Bool Unit)
 |0,_=>none
 |n+1,c=>
  if c < a0.1 then((((aQ r1 y5).bind λs=>
  (aQ s c).bind λr=>
  if r < 0 then((ck (y5+1)).bind λl=>
  (aQ r1 l).bind λj=>
  (aQ j c).bind λh=>
  some (decide (h=0))) else(some false)):Option (Bool)).bind λu=>
  if u=true then(some (.error true)) else((ck (c+1)).bind λe=>
  eW k a0 r1 y5 n e)) else(some (.ok ()))
def eX(k:Nat)(a0:ae)(r1:(List (List Int))):Nat->Int->Option (Except Bool Unit)
 |0,_=>none
 |n+1,y5=>
  if y5 < (a0.2.2.2.2.1.length:Int) then(bE (α:=Unit) ((ck (y5+1)).bind λx9=>
  (aQ r1 x9).bind λh=>
  (aQ r1 y5).bind λc=>
  (cK (wR h/\wR c)).bind λ_=>
  if h=c then(some (.ok ())) else(eW k a0 r1 y5 k 0)) (λe=>some (.error e)) λ_=>
  (ck (y5+1)).bind λj=>
  eX k a0 r1 n j) else(some (.ok ()))
def iN(k:Nat)(a0:ae)(a1:Int)(a2:Int):Option Bool:=
 (lq k a0 a1).bind λr1=>
 bE (α:=Unit) (eX k a0 r1 k a2) (some) λ_=>
 some false
theorem nV(k:Nat)(a0:ae)(c z_a0:Nat)(a1:Int)(a2:Int)(r:Bool)(h:iN k a0 a1 a2=some r):
 bW (dP Tryz.prog) 55 [Pt c,.eq (.int .u8 a1),I a2] [.obj c 129 (aN a0 z_a0),.inv z_a0 (bQ k a0)] (λ_:Unit=>(bI [.eq (.bool r)],[.obj c 129 (aN a0 z_a0),.inv z_a0 (bQ k a0)])):=by
 unfold iN at h
 replace h:=bi h
 refine bW.of 56 Tryz.func55 rfl Tryz.ntmps55 rfl λS w0=>?_
 refine sr ?_
 refine cq ?_
 refine nt ?_
 refine sr ?_
 iterate 2 refine mq ?_
 obtain⟨r1,Un,h⟩:=aa h
 have Uo:=oQ k a0 c z_a0 a1 r1 Un
 refine fr 1 ?_
 refine fr 1 ?_
 refine aI (Δ:=[_,_]) (F:=_) (λ_ _ _=>ag rfl _) rfl rfl (aS [.tmp 10,.tmp 11] rfl rfl Eo rfl Uo) ⟨rfl,rfl,trivial⟩ λ_=>?_
 refine aX rfl rfl rfl (bo rfl E4 Ii) trivial λb2=>?_
 refine aP rfl rfl (aM rfl FT rfl rfl rfl) ⟨rfl,rfl,trivial⟩ ?_
 refine fg (jo (t:=(.arr 7 Tr)) (x:=r1) [7] .rep ⟨rfl,trivial⟩) ?_
 refine nt ?_
 refine du (Z:=Unit) (α:=Unit) (λz4 x3=>[]) (λz4 x3=>[.obj c 129 (aN a0 z_a0),.inv z_a0 (bQ k a0)]) (λe=>e=r) h (λe h=>Option.some.inj h) (λK hR h=>?_) (λz4 x3 h=>?_)
 .
  refine sr (mq ?_);refine aq (nt (aj ?_));refine aE (λz6 y5=>[(0,Pt c),(7,.at (.arr 7 Tr) r1),(8,I y5)]) (λz6 y5=>[.obj c 129 (aN a0 z_a0),.inv z_a0 (bQ k a0)]) (eX k a0 r1) k () a2 (λ_=>rfl) h (SE.fin [0,1] ⟨rfl,rfl,rfl,trivial⟩ rfl) (λn z6 y5 h=>?_);unfold eX at h;refine ak (sr ?_);iterate 2 refine mq ?_
  refine ja (cJ rfl) ?_;refine fl gJ ?_;refine fl eI ?_;refine lo lC ?_;refine ol Aj ?_;refine jb (bH rfl) ?_;refine nt (ci h (λh=>?_) (λh=>?_))
  .refine sk (du (Z:=Unit) (α:=Unit) (λz8 x7=>[(0,Pt c),(7,.at (.arr 7 Tr) r1),(8,I y5)]) (λz8 x7=>[.obj c 129 (aN a0 z_a0),.inv z_a0 (bQ k a0)]) (λe=>e=r) h (λe h=>hR e h) (λK hR h=>?_) (λz8 x7 h=>?_))
   .refine aj (ak (ak (cP ?_)));refine dm ?_;obtain⟨x9,zz,h⟩:=aa h;refine db (bu rfl zz) ?_;obtain⟨Uw,gw,h⟩:=aa h;refine db (co (t:=Tr) rfl IX iY gw) ?_;refine da (au (t:=Tr) rfl iY rfl) ?_;refine dm ?_;obtain⟨Uu,Y,h⟩:=aa h;refine db (co (t:=Tr) rfl IX iY Y) ?_;refine da (au (t:=Tr) rfl iY rfl) ?_;refine df ew ?_;obtain⟨Ux,l,h⟩:=aa h;refine jb (GN rfl (am l).1 (am l).2) ?_;refine nt (ci h (λh=>?_) (λh=>?_))
    .refine fV (bR (c8 (an ?_)));exact jz ((),()) h [0,1]
    .refine sk (sr (mq ?_));refine ja (cJ rfl) ?_;refine fl gJ ?_;refine fl gA ?_;refine lo cL ?_;refine eG rfl ?_;refine nt (aj (aE (λD j=>[(0,Pt c),(7,.at (.arr 7 Tr) r1),(8,I y5),(36,I a0.1),(37,I j)]) (λD j=>[.obj c 129 (aN a0 z_a0),.inv z_a0 (bQ k a0)]) (eW k a0 r1 y5) k () 0 (λ_=>rfl) h (SE.fin [0,1] ⟨rfl,rfl,rfl,rfl,rfl,trivial⟩ rfl) (λn D j h=>?_)));unfold eW at h;refine sr (jb (bH rfl) ?_);refine nt (ak (ci h (λh=>?_) (λh=>?_)))
     .refine sk (ak (aj (sr (mq ?_))));refine aq (nt ?_);refine aG (Z:=Unit) (α:=Bool) (λy u=>[(0,Pt c),(7,.at (.arr 7 Tr) r1),(8,I y5),(36,I a0.1),(37,I j),(54,.eq (.bool u))]) (λy u=>[.obj c 129 (aN a0 z_a0),.inv z_a0 (bQ k a0)]) h (λK h=>?_) (λy u h=>?_)
      .refine ab ?_;iterate 2 refine mq ?_
       obtain⟨Ut,X,h⟩:=aa h;refine jb (co (t:=Tr) rfl IX iY X) ?_;obtain⟨Us,U,h⟩:=aa h;refine jb (co (t:=Ti) rfl BD cL U) ?_;refine ja (au (t:=Ti) rfl cL rfl) ?_;refine jb (bH rfl) ?_;refine mq ?_;refine cT (s:=46) rfl (λhb=>?_) (λhb=>?_)
       .replace h:=fR (wu hb) h;refine gm ?_;obtain⟨Ur,Q,h⟩:=aa h;refine gb (bu rfl Q) ?_;refine gm ?_;obtain⟨Up,O,h⟩:=aa h;refine gb (co (t:=Tr) rfl IX iY O) ?_;obtain⟨qt,M,h⟩:=aa h;refine gb (co (t:=Ti) rfl BD cL M) ?_;refine ga (au (t:=Ti) rfl cL rfl) ?_;refine gb (i8 rfl) ?_;refine pt (nl ?_);exact jz ((),decide (qt=0)) h [0,1]
       .replace h:=dr (wv hb) h;iterate 7 refine gn ?_
        refine pf (nl ?_);exact jz ((),false) h [0,1]
      .refine cv h (λh=>?_) (λh=>?_)
       .refine sr (cq (nt (aA (br (ba (br (ba (aW ?_))))))));obtain rfl:=hR _ h;exact aO () [_] 2 ⟨rfl,trivial⟩ rfl
       .refine bf (aR (tn (ab ?_)));obtain⟨mw,J,h⟩:=aa h;refine jb (bu rfl J) ?_;refine mq (nl ?_);exact jz ((),mw) h [0,1]
     .refine fV (bR (bR (c8 (bn ?_))));exact jz ((),()) h [0,1]
   .refine ab (mq ?_);obtain⟨mc,E,h⟩:=aa h;refine jb (bu rfl E) ?_;refine aq (nl ?_);exact jz ((),mc) h [0,1]
  .refine xa ?_;exact jz ((),()) h [0,1]
 .
  refine sr (cq (nt (aA ?_)));cases h;exact aO () [_] 2 ⟨rfl,trivial⟩ rfl
def mU(k:Nat)(a0:Int)(a1:ae)(a2:Int):Option Bool:=
 (iN k a1 a0 a2).bind λr1=>
 some r1
theorem s5(k:Nat)(a0:Int)(a1:ae)(c z_a1 j:Nat)(a2:Int)(e:Nat)(r:Bool)(h:mU k a0 a1 a2=some r):
 bW (dP Tryz.prog) 54 [.eq (.int .u8 a0),Pt j,Pt e] [.obj c 129 (aN a1 z_a1),.inv z_a1 (bQ k a1),.obj j 70 (Pt c),.obj e 3 (I a2)] (λ_:Unit=>(bI [.eq (.bool r)],[.obj c 129 (aN a1 z_a1),.inv z_a1 (bQ k a1),.obj j 70 (Pt c),.obj e 3 (I a2)])):=by
 unfold mU at h
 replace h:=bi h
 refine bW.of 9 Tryz.func54 rfl Tryz.ntmps54 rfl λS w0=>?_
 refine sr ?_
 refine cq ?_
 refine nt ?_
 refine sr ?_
 refine fr 2 ?_
 refine lo Ji ?_
 refine mq ?_
 refine fr 3 ?_
 refine lo cL ?_
 obtain⟨r1,l,h⟩:=aa h
 have n:=nV k a1 c z_a1 a0 a2 r1 l
 refine fr 3 ?_
 refine fr 3 ?_
 refine aI (Δ:=[_,_]) (F:=_) (λ_ _ _=>ag rfl _) rfl rfl (aS [.tmp 5,.tmp 6,.tmp 7] rfl rfl SR rfl n) ⟨rfl,rfl,rfl,trivial⟩ λ_=>?_
 refine aq ?_
 refine nt ?_
 refine aA ?_
 refine bU (SE.fin (Γ':=[(4,_)]) [0,1,3,2] ⟨rfl,trivial⟩ rfl) ?_
 cases h
 exact aO () [_] 4 ⟨rfl,trivial⟩ rfl
def eO(k:Nat)(a0:(List Int))(a1_0:ae)(a1_1:Int):Nat->Int->Option (Except Int Unit)
 |0,_=>none
 |n+1,y3=>
  if y3 < (a0.length:Int) then((aQ a0 y3).bind λx5=>
  (mU k x5 a1_0 a1_1).bind λr6=>
  if r6=true then(some (.error y3)) else((ck (y3+1)).bind λx7=>
  eO k a0 a1_0 a1_1 n x7)) else(some (.ok ()))
def iI(k:Nat)(a0:(List Int))(a1_0:ae)(a1_1:Int):Option Int:=
 bE (α:=Unit) (eO k a0 a1_0 a1_1 k 0) (some) λ_=>
 some (-1:Int)
theorem nL(k:Nat)(a0:(List Int))(a1_0:ae)(b_a1_0 z_a1_0 c_a1_0:Nat)(a1_1:Int)(c_a1_1:Nat)(r:Int)(h:iI k a0 a1_0 a1_1=some r):
 bW (dP Tryz.prog) 83 [.rep (.slice (.int .u8)) a0,.eq (.func (.func 54) #[] #[(Pv c_a1_0),(Pv c_a1_1)])] [.obj b_a1_0 129 (aN a1_0 z_a1_0),.inv z_a1_0 (bQ k a1_0),.obj c_a1_0 70 (Pt b_a1_0),.obj c_a1_1 3 (I a1_1)] (λ_:Unit=>(bI [I r],[.obj b_a1_0 129 (aN a1_0 z_a1_0),.inv z_a1_0 (bQ k a1_0),.obj c_a1_0 70 (Pt b_a1_0),.obj c_a1_1 3 (I a1_1)])):=by
 unfold iI at h
 replace h:=bi h
 refine bW.of 19 Tryz.func83 rfl Tryz.ntmps83 rfl λS w0=>?_
 refine sr ?_
 refine cq ?_
 refine nt ?_
 refine du (Z:=Unit) (α:=Unit) (λz2 x1=>[]) (λz2 x1=>[.obj b_a1_0 129 (aN a1_0 z_a1_0),.inv z_a1_0 (bQ k a1_0),.obj c_a1_0 70 (Pt b_a1_0),.obj c_a1_1 3 (I a1_1)]) (λe=>e=r) h (λe h=>Option.some.inj h) (λK hR h=>?_) (λz2 x1 h=>?_)
 .
  refine sr (mq ?_);refine ol yg ?_;refine eG rfl ?_;refine nt (aj (aE (λz4 y3=>[(0,.rep (.slice (.int .u8)) a0),(1,.eq (.func (.func 54) #[] #[(Pv c_a1_0),(Pv c_a1_1)])),(7,I (a0.length:Int)),(8,I y3)]) (λz4 y3=>[.obj c_a1_0 70 (Pt b_a1_0),.obj b_a1_0 129 (aN a1_0 z_a1_0),.obj c_a1_1 3 (I a1_1),.inv z_a1_0 (bQ k a1_0)]) (eO k a0 a1_0 a1_1) k () 0 (λ_=>rfl) h (SE.fin [2,0,3,1] ⟨rfl,rfl,rfl,rfl,trivial⟩ rfl) (λn z4 y3 h=>?_)));unfold eO at h;refine sr (jb (bH rfl) ?_);refine nt (ak (ci h (λh=>?_) (λh=>?_)))
  .refine sk (ak (aj (sr (mq ?_))));refine aq (nt (sr ?_));iterate 3 refine mq ?_
   obtain⟨x5,j,h⟩:=aa h;refine jb (aY (t:=(.int .u8)) rfl yg nG j) ?_;refine ja (au (t:=(.int .u8)) rfl nG rfl) ?_;obtain⟨r6,l,h⟩:=aa h;refine fr 2 ?_;refine fr 1 ?_;refine fr 3 ?_;refine fr 3 ?_;refine aI (Δ:=[_,_,_,_]) (F:=_) (λ_ _ _=>ag rfl _) rfl rfl (qB (fs:=[]) (cs:=[(Pv c_a1_0),(Pv c_a1_1)]) (ags:=[.eq (.int .u8 x5)]) [.tmp 15] rfl rfl SS rfl (s5 k x5 a1_0 b_a1_0 z_a1_0 c_a1_0 a1_1 c_a1_1 r6 l)) ⟨rfl,rfl,trivial⟩ λ_=>?_;refine nt (cv h (λh=>?_) (λh=>?_))
   .refine sr (mq ?_);refine aq (nt (aA (br (ba (aW ?_)))));obtain rfl:=hR _ h;exact aO () [_] 4 ⟨rfl,trivial⟩ rfl
   .refine bf (aR (tn (ab ?_)));obtain⟨x7,c,h⟩:=aa h;refine jb (bu rfl c) ?_;refine mq (nl ?_);exact jz ((),x7) h [2,0,3,1]
  .refine xa ?_;exact jz ((),()) h [1,3,0,2]
 .
  refine sr (cq (nt (aA ?_)));cases h;exact aO () [_] 4 ⟨rfl,trivial⟩ rfl
def eP(k:Nat)(a0:(List Int))(a1_0:ae)(a1_1:Int):Option Bool:=
 (iI k a0 a1_0 a1_1).bind λr1=>
 some (decide (0≤r1))
theorem mi(k:Nat)(a0:(List Int))(a1_0:ae)(b_a1_0 z_a1_0 c_a1_0:Nat)(a1_1:Int)(c_a1_1:Nat)(r:Bool)(h:eP k a0 a1_0 a1_1=some r):
 bW (dP Tryz.prog) 56 [.rep (.slice (.int .u8)) a0,.eq (.func (.func 54) #[] #[(Pv c_a1_0),(Pv c_a1_1)])] [.obj b_a1_0 129 (aN a1_0 z_a1_0),.inv z_a1_0 (bQ k a1_0),.obj c_a1_0 70 (Pt b_a1_0),.obj c_a1_1 3 (I a1_1)] (λ_:Unit=>(bI [.eq (.bool r)],[.obj b_a1_0 129 (aN a1_0 z_a1_0),.inv z_a1_0 (bQ k a1_0),.obj c_a1_0 70 (Pt b_a1_0),.obj c_a1_1 3 (I a1_1)])):=by
 unfold eP at h
 replace h:=bi h
 refine bW.of 9 Tryz.func56 rfl Tryz.ntmps56 rfl λS w0=>?_
 refine sr ?_
 refine cq ?_
 refine nt ?_
 refine sr ?_
 iterate 2 refine mq ?_
 obtain⟨r1,c,h⟩:=aa h
 have e:=nL k a0 a1_0 b_a1_0 z_a1_0 c_a1_0 a1_1 c_a1_1 r1 c
 refine fr 3 ?_
 refine fr 3 ?_
 refine fr 3 ?_
 refine fr 3 ?_
 refine aI (Δ:=[_,_,_,_]) (F:=_) (λ_ _ _=>ag rfl _) rfl rfl (aS [.tmp 5,.tmp 6] rfl rfl SC rfl e) ⟨rfl,rfl,trivial⟩ λ_=>?_
 refine jb (i7 rfl) ?_
 refine aq ?_
 refine nt ?_
 refine aA ?_
 cases h
 exact aO () [_] 4 ⟨rfl,trivial⟩ rfl
def pR(k:Nat)(a0:ae)(a1:Int):Option ((List Int)×Int):=
 (iy k a0 ([]:(List Int)) [a1] ([]:(List Int))).bind λr3=>
 fQ r3.1 (if¬(r3.2.2=0) then(some (([]:(List Int)),r3.2.2)) else(none)) (λq4=>if¬(r3.2.2=0) then(some (([]:(List Int)),r3.2.2)) else((jH k (qo (λ(c:(List Int)) (e:Int)=>
  (mR k a0 a1 e).bind λr=>
  fQ r (none) (λs=>(eP k r3.2.1 s a1).bind λn=>
  if¬(n=true) then((cK (cf (length c+length [e]))).bind λ_=>
  some (c++[e],true)) else(some (c,true))))) a0.1 (([]:(List Int)),false)).bind λh=>
 if h.2=true then(none) else((pN k h.1).bind λl=>
 (eT k l).bind λj=>
 some (j,0))))
theorem vt(k:Nat)(a0:ae)(a1:Int)(r:(List Int)×Int)(h:pR k a0 a1=some r):
 bW (dP Tryz.prog) 22 [.rep ap a0,I a1] [] (λ_:Unit=>(bI [.rep Tl r.1,I r.2],[])):=by
 unfold pR at h
 replace h:=bi h
 refine uU 44 Tryz.func22 rfl Tryz.ntmps22 rfl λS w0=>?_
 refine sr ?_
 refine bx λb1=>?_
 refine bx λb2=>?_
 refine cq ?_
 refine cq ?_
 refine nt ?_
 refine sr ?_
 refine fr 1 ?_
 refine lo im ?_
 refine fr 1 ?_
 refine lo cL ?_
 refine ja (bg (t:=Ti) [(.tmp 15,_)] [a1] rfl rfl dR (.cons rfl .int .nil) rfl rfl) ?_
 obtain⟨r3,Up,h⟩:=aa h
 have y:=kx k a0 ([]:(List Int)) [a1] ([]:(List Int)) r3 Up
 rcases hr:r3.1 with _ |q4
 .
  rw [hr] at h y;replace h:=uC h;refine aI (Δ:=[]) (F:=_) (λ_ _ _=>ag rfl _) rfl rfl (bT (N:=[(.tmp 14,.rep ap a0),(.const (.slice none 0 0),.eq (.slice none 0 0)),(.tmp 16,.rep Tl [a1]),(.const (.slice none 0 0),.eq (.slice none 0 0))]) (aS [.tmp 14,.const (.slice none 0 0),.tmp 16,.const (.slice none 0 0)] rfl rfl zt rfl y) λ_ _ _ hn=>⟨hn.1,(aF (t:=Tl) (x:=([]:(List Int))) .nil rfl rfl hn.2.1),hn.2.2.1,(aF (t:=Tl) (x:=([]:(List Int))) .nil rfl rfl hn.2.2.2.1),trivial⟩) ⟨rfl,rfl,rfl,rfl,trivial⟩ λ_=>?_;refine mq ?_;refine xr ?_;refine xr ?_;refine xr ?_;refine aX rfl rfl rfl (bo rfl I0 Lq) trivial λb5=>?_;refine aq ?_;refine aP rfl rfl (aM rfl wN rfl rfl rfl) ⟨rfl,rfl,trivial⟩ ?_;refine aq (nt (ak (sr ?_)));refine mq ?_;refine jb (eQ rfl) ?_;refine nt (cn h (λh=>?_) (λh=>?_))
  .refine sr (mq ?_);refine cq ?_;refine aq (nt (rx ?_));refine bU (eA (t:=Tl) (x:=([]:(List Int))) 4 rfl .nil rfl rfl) ?_;refine zX ?_;cases h;exact rb
  .cases h
 .
  rw [hr] at h y;replace h:=uB h;refine aI (Δ:=[]) (F:=_) (λ_ _ _=>ag rfl _) rfl rfl (bT (N:=[(.tmp 14,.rep ap a0),(.const (.slice none 0 0),.eq (.slice none 0 0)),(.tmp 16,.rep Tl [a1]),(.const (.slice none 0 0),.eq (.slice none 0 0))]) (aS [.tmp 14,.const (.slice none 0 0),.tmp 16,.const (.slice none 0 0)] rfl rfl zt rfl y) λ_ _ _ hn=>⟨hn.1,(aF (t:=Tl) (x:=([]:(List Int))) .nil rfl rfl hn.2.1),hn.2.2.1,(aF (t:=Tl) (x:=([]:(List Int))) .nil rfl rfl hn.2.2.2.1),trivial⟩) ⟨rfl,rfl,rfl,rfl,trivial⟩ λz6=>?_;refine mq ?_;refine xr ?_;refine xr ?_;refine xr ?_;refine aX rfl rfl rfl (bo rfl I0 Lq) trivial λb7=>?_;refine aq ?_;refine aP rfl rfl (aM rfl wN rfl rfl rfl) ⟨rfl,rfl,trivial⟩ ?_;refine aq (nt (ak (sr ?_)));refine mq ?_;refine jb (eQ rfl) ?_;refine nt (cn h (λh=>?_) (λh=>?_))
  .refine sr (mq ?_);refine cq ?_;refine aq (nt (rx ?_));refine bU (eA (t:=Tl) (x:=([]:(List Int))) 4 rfl .nil rfl rfl) ?_;refine zX ?_;cases h;exact rb
  .refine sk (sr (aX rfl rfl rfl (bo rfl I0 Lq) trivial λb8=>?_));refine nt (ak (sr (fl gA ?_)));refine fr 5 ?_;refine lo cL ?_;refine aX rfl rfl rfl (av [.tmp 25] rfl rfl Qx rfl (qI a0.1)) ⟨rfl,trivial⟩ λb9=>?_;refine nt (aj (jd (SE.nil 71 (.int .u8)) ?_));refine dQ 7 rfl ?_;refine dQ 7 rfl ?_;refine dQ 7 rfl ?_;refine dQ 7 rfl ?_;refine dQ 4 rfl ?_;refine dQ 7 rfl ?_;refine dQ 7 rfl ?_;refine dQ 7 rfl ?_;obtain⟨u,qt,h⟩:=aa h;refine ri (Δ:=[.obj b9 3 (I a0.1),.obj b1 26 (.rep ap a0),.obj b8 74 (.eq (.slice none 0 0)),.sl (.slice none 0 0) 71 (.int .u8) ([]:(List Int)),.obj b7 74 (.rep (.slice (.int .u8)) r3.2.1),.obj z6.1 129 (aN q4 z6.2),.inv z6.2 (bQ k q4),.obj b2 3 (I a1)]) (F:=[]) (X:=Value) (J:=λ_=>O6 u.2) (E:=λc=>[.obj b9 3 (I a0.1),.obj b1 26 (.rep ap a0),.obj b8 74 (.eq c),.sl c 71 (.int .u8) u.1,.obj b7 74 (.rep (.slice (.int .u8)) r3.2.1),.obj z6.1 129 (aN q4 z6.2),.inv z6.2 (bQ k q4),.obj b2 3 (I a1)]) (r0:=λ_=>.tup .any) rfl rfl Qs (λrec hp ha hb hs hpe hN hv l=>?_) (λdl c=>tH (λhj=>?_) (λhj=>?_))
   .rcases rec with⟨st0,pe0,fn0,tm0,ps0,as0,bd0,df0⟩;dsimp only at hp ha hb hs hpe hN hv;subst hp hs hpe;have vN:zS tm0 [(2,Pt b1),(3,Pt b2),(7,Pt b7),(9,Pt b8)]:=⟨congrArg A.eq (hv 2 _ rfl).symm,congrArg A.eq (hv 3 _ rfl).symm,congrArg A.eq (hv 7 _ rfl).symm,congrArg A.eq (hv 9 _ rfl).symm,trivial⟩;refine bW.pick (M:=(dP Tryz.prog)) [1,0,2,3,4,5,6,7,8] [1,0,2,3,4,5,6,7,8] (nX (λ(c:Value) (q:(List Int)×Bool)=>[.raw l (.loop (j6 ⟨.ready,none,fn0,tm0, #[27],as0,bd0,df0⟩ (O6 q.2))),.obj b1 26 (.rep ap a0),.obj b8 74 (.eq c),.sl c 71 (.int .u8) q.1,.obj b7 74 (.rep (.slice (.int .u8)) r3.2.1),.obj z6.1 129 (aN q4 z6.2),.inv z6.2 (bQ k q4),.obj b2 3 (I a1)]) l (qo (λ(n:(List Int)) (j:Int)=>
    (mR k a0 a1 j).bind λs=>
    fQ s (none) (λO=>(eP k r3.2.1 O a1).bind λD=>
    if¬(D=true) then((cK (cf (length n+length [j]))).bind λ_=>
    some (n++[j],true)) else(some (n,true))))) k a0.1 b9 (λc q p r' h=>?_) (.slice none 0 0) (([]:(List Int)),false) u qt) rfl (λ_=>rfl) (λ_=>rfl)
    obtain⟨rq,hq,h2,rfl⟩:=tI h;obtain⟨n,b5⟩:=q;obtain rfl:b5=false:=hq;replace h:=bi h2;obtain⟨j,hpv⟩:∃x,x=p:=⟨_,rfl⟩;subst hpv;refine YT.pick (R':=(λc:Value=>(.eq (.bool rq.2),[.raw l (.loop (j6 ⟨.ready,none,fn0,tm0, #[27],as0,bd0,df0⟩ (O6 (!rq.2)))),.obj b1 26 (.rep ap a0),.obj b8 74 (.eq c),.sl c 71 (.int .u8) rq.1,.obj b7 74 (.rep (.slice (.int .u8)) r3.2.1),.obj z6.1 129 (aN q4 z6.2),.inv z6.2 (bQ k q4),.obj b2 3 (I a1)]))) [0,1,2,3,4,5,6,7] [0,1,2,3,4,5,6,7] (Ik ha hb (N:=44) (Γ:=[(2,Pt b1),(3,Pt b2),(7,Pt b7),(9,Pt b8)]) rfl hN (by decide) vN (λS w=>?_)) rfl (λ_=>rfl) (λ_=>rfl);refine ab (aq (nl ?_));refine zZ rfl rfl ?_;refine aj (sr (fr 1 ?_));refine lo im ?_;refine fr 7 ?_;refine lo cL ?_;refine mq ?_;obtain⟨s,mw,h⟩:=aa h;have e:=vp k a0 a1 j s mw;rcases hr:s with _ |O
    .rw [hr] at h e;replace h:=uC h;refine aI (Δ:=[]) (F:=_) (λ_ _ _=>ag rfl _) rfl rfl (av [.tmp 28,.tmp 29,.tmp 30] rfl rfl Qw rfl e) ⟨rfl,rfl,rfl,trivial⟩ λ_=>?_;cases h
    .rw [hr] at h e;replace h:=uB h;refine aI (Δ:=[]) (F:=_) (λ_ _ _=>ag rfl _) rfl rfl (av [.tmp 28,.tmp 29,.tmp 30] rfl rfl Qw rfl e) ⟨rfl,rfl,rfl,trivial⟩ λQ=>?_;refine aX rfl rfl rfl (bo rfl Ru Tv) trivial λzz=>?_;refine aP rfl rfl (aM rfl Ji rfl rfl rfl) ⟨rfl,rfl,trivial⟩ ?_;refine nt (sr (jb (rI [] [.tmp 11,.tmp 3] [] [(Pv zz),(Pv b2)] rfl rfl rfl) ?_));refine aq (nt (sr ?_));refine fr 8 ?_;refine lo wN ?_;refine mq ?_;obtain⟨D,mc,h⟩:=aa h;refine fr 4 ?_;refine fr 2 ?_;refine fr 4 ?_;refine fr 4 ?_;refine aI (Δ:=[_,_,_,_]) (F:=_) (λ_ _ _=>ag rfl _) rfl rfl (aS [.tmp 33,.tmp 34] rfl rfl SQ rfl (mi k r3.2.1 O Q.1 Q.2 zz a1 b2 D mc)) ⟨rfl,rfl,trivial⟩ λ_=>?_;refine ja (iK rfl) ?_;refine nt (cw h (λh=>?_) (λh=>?_))
     .refine ab (fr 7 ?_);refine lo wN ?_;refine mq ?_;refine ja (bg (t:=(.int .u8)) [(.tmp 38,_)] [j] rfl rfl Jv (.cons rfl .int .nil) rfl rfl) ?_;obtain⟨Ur,Y,h⟩:=aa h;refine fr 8 ?_;refine eK rfl rfl rfl (cN rfl rfl Jv (am Y)) ⟨rfl,rfl,trivial⟩ λUn=>?_;refine sJ λo22=>?_;refine fr 1 ?_;refine aP rfl rfl (aM rfl wN o22 rfl rfl) ⟨rfl,rfl,trivial⟩ ?_;refine aC (aR (bq 5 rfl ?_));refine bq 10 rfl ?_;refine bq 10 rfl ?_;refine bq 8 rfl ?_;refine bq 5 rfl ?_;refine bq 5 rfl ?_;refine bq 9 rfl ?_;refine bq 10 rfl ?_;cases h;exact o5 Un 7 rfl
     .refine bf (aR (bq 3 rfl ?_));refine bq 10 rfl ?_;refine bq 10 rfl ?_;refine bq 6 rfl ?_;refine bq 10 rfl ?_;refine bq 10 rfl ?_;refine bq 9 rfl ?_;refine bq 10 rfl ?_;cases h;exact o5 c 7 rfl
   .replace h:=dr (Me hj) h;refine aR (tn (sr (fr 3 ?_)));refine lo wN ?_;obtain⟨U,gw,h⟩:=aa h;refine fr 4 ?_;refine kb (lx (N:=[(.tmp 41,.eq c),(.func 58,.eq (.func (.func 58) #[] #[]))]) (av [.tmp 41,.func 58] rfl rfl SO rfl (vq k u.1 U gw)) (λ_ _ _ hv hn=>⟨(lend hn.1 hv),hn.2.1,trivial⟩) (λ_=>⟨rfl,oe⟩)) ?_;obtain⟨Uo,Z,h⟩:=aa h;refine ja (av [.tmp 42] rfl rfl KZ rfl (ie k U Uo Z)) ?_;refine aq ?_;refine cq (nt (aA ?_));refine bq 2 rfl ?_;refine Ds ?_;cases h;exact rb
   .replace h:=fR (L9 hj) h;cases h
def gg(k:Nat)(r2:(List (List Int)))(y6:Int×Int×(List (eJ×eJ))):Nat->Int->Option Int
 |0,_=>none
 |n+1,c=>
  ((if 0 < c then((ck (c - 1)).bind λl=>
  (aQ r2 l).bind λj=>
  (aQ j y6.1).bind λh=>
  some (decide (0≤h))) else(some false)):Option (Bool)).bind λr=>
  if r=true then((ck (c - 1)).bind λe=>
  gg k r2 y6 n e) else(some c)
def gh(k:Nat)(a0:ae)(r2:(List (List Int))):Nat->(Int×Int×(List (eJ×eJ)))->Option (List (fA×fA))
 |0,_=>none
 |n+1,y6=>
  bE (α:=Int×Int×(List (eJ×eJ))) (((gg k r2 y6 k y6.2.1):Option (Int)).bind λc=>
  if c=0 then((cK (yz (y6.1,y6.2.1))).bind λ_=>
  some (.error (A3 y6.2.2 (y6.1,y6.2.1) ((-1:Int),0)))) else((ck (c - 1)).bind λr=>
  (aQ r2 r).bind λl=>
  (ck (c - 1)).bind λj=>
  (dk k a0 l y6.1 j).bind λh=>
  (ck (c - 1)).bind λe=>
  (cK (yz (y6.1,y6.2.1))).bind λ_=>
  some (.ok (h,e,A3 y6.2.2 (y6.1,y6.2.1) (h,e))))) (some) λx8=>
  gh k a0 r2 n (x8.1,x8.2.1,x8.2.2)
def lg(k:Nat)(a0:ae)(a1:Int)(a2:fA):Option (List (fA×fA)):=
 (lq k a0 a1).bind λr2=>
 gh k a0 r2 k (a2.1,a2.2,([]:List (eJ×eJ)))
theorem qH(k:Nat)(a0:ae)(c z_a0:Nat)(a1:Int)(a2:fA)(r:(List (fA×fA)))(h:lg k a0 a1 a2=some r):
 bW (dP Tryz.prog) 66 [Pt c,.eq (.int .u8 a1),.rep bL a2] [.obj c 129 (aN a0 z_a0),.inv z_a0 (bQ k a0)] (λz:Nat=>(bI [.eq (.map (some z))],[.inv z (sV r),.obj c 129 (aN a0 z_a0),.inv z_a0 (bQ k a0)])):=by
 unfold lg at h
 replace h:=bi h
 refine bW.of 56 Tryz.func66 rfl Tryz.ntmps66 rfl λS w0=>?_
 refine sr ?_
 refine bx λb1=>?_
 refine cq ?_
 refine nt ?_
 refine sr ?_
 iterate 2 refine mq ?_
 obtain⟨r2,UJ,h⟩:=aa h
 have UK:=oQ k a0 c z_a0 a1 r2 UJ
 refine fr 2 ?_
 refine fr 2 ?_
 refine aI (Δ:=[_,_]) (F:=_) (λ_ _ _=>ag rfl _) rfl rfl (aS [.tmp 12,.tmp 13] rfl rfl Eo rfl UK) ⟨rfl,rfl,trivial⟩ λ_=>?_
 refine aX rfl rfl rfl (bo rfl E4 Ii) trivial λb3=>?_
 refine aP rfl rfl (aM rfl FT rfl rfl rfl) ⟨rfl,rfl,trivial⟩ ?_
 refine fg (jo (t:=(.arr 7 Tr)) (x:=r2) [7] .rep ⟨rfl,trivial⟩) ?_
 refine nt ?_
 refine sr ?_
 refine aX rfl rfl rfl (vR rfl) trivial λz4=>?_
 refine fg (sG (sV []) Jf) ?_
 refine aq ?_
 refine nt ?_
 refine sr ?_
 refine aX rfl rfl rfl (bo rfl sM zP) trivial λb5=>?_
 refine nt ?_
 refine sr ?_
 refine fl xy ?_
 refine aP rfl rfl (aM rfl cL rfl rfl rfl) ⟨rfl,rfl,trivial⟩ ?_
 refine nt ?_
 refine aj ?_
 refine dQ 4 rfl ?_
 refine jd (ik (a:=.rep bL a2) (a':=.agg (.pair (I a2.1) (I a2.2))) (AE.trans DD (AE.agg (AE.trans Ac (AE.pair AE.int AE.int))))) ?_
 refine aE (λz7 y6=>[(0,Pt c),(5,Pt b1),(7,.at (.arr 7 Tr) r2),(8,.eq (.map (some z4))),(9,Pt b5)]) (λz7 y6=>[.obj c 129 (aN a0 z_a0),.obj b1 110 (.agg (.pair (I y6.1) (I y6.2.1))),.obj b5 110 (.agg (.pair (I (-1:Int)) (I 0))),.inv z_a0 (bQ k a0),.inv z4 (sV y6.2.2)]) (gh k a0 r2) k () (a2.1,a2.2,([]:List (eJ×eJ))) (λ_=>rfl) h (SE.fin [3,0,1,4,2] ⟨rfl,rfl,rfl,rfl,rfl,trivial⟩ rfl) (λn z7 y6 h=>?_)
 unfold gh at h
 refine IJ (Z:=Unit) (α:=Int×Int×(List (eJ×eJ))) (λz9 x8=>[(0,Pt c),(5,Pt b1),(7,.at (.arr 7 Tr) r2),(8,.eq (.map (some z4))),(9,Pt b5)]) (λz9 x8=>[.obj c 129 (aN a0 z_a0),.obj b1 110 (.agg (.pair (I x8.1) (I x8.2.1))),.obj b5 110 (.agg (.pair (I (-1:Int)) (I 0))),.inv z_a0 (bQ k a0),.inv z4 (sV x8.2.2)]) (λe=>e=r) h (λe h=>Option.some.inj h) (λK hR h=>?_) (λz9 x8 h=>?_)
 .
  refine aj (sr (fl KU ?_));refine fr 1 ?_;refine lo cL ?_;refine aq (nt ?_);refine aG (Z:=Unit) (α:=Int) (λO D=>[(0,Pt c),(5,Pt b1),(7,.at (.arr 7 Tr) r2),(8,.eq (.map (some z4))),(9,Pt b5),(10,I D)]) (λO D=>[.obj c 129 (aN a0 z_a0),.obj b1 110 (.agg (.pair (I y6.1) (I y6.2.1))),.obj b5 110 (.agg (.pair (I (-1:Int)) (I 0))),.inv z_a0 (bQ k a0),.inv z4 (sV y6.2.2)]) h (λK h=>?_) (λO D h=>?_)
  .refine aj (aE (λM s=>[(0,Pt c),(5,Pt b1),(7,.at (.arr 7 Tr) r2),(8,.eq (.map (some z4))),(9,Pt b5),(10,I s)]) (λM s=>[.obj c 129 (aN a0 z_a0),.obj b1 110 (.agg (.pair (I y6.1) (I y6.2.1))),.obj b5 110 (.agg (.pair (I (-1:Int)) (I 0))),.inv z_a0 (bQ k a0),.inv z4 (sV y6.2.2)]) (gg k r2 y6) k () y6.2.1 (λ_=>rfl) h (SE.fin [1,0,2,3,4] ⟨rfl,rfl,rfl,rfl,rfl,rfl,trivial⟩ rfl) (λn M s h=>?_));unfold gg at h;refine ak (aG (Z:=Unit) (α:=Bool) (λJ y=>[(0,Pt c),(5,Pt b1),(7,.at (.arr 7 Tr) r2),(8,.eq (.map (some z4))),(9,Pt b5),(10,I s),(30,.eq (.bool y))]) (λJ y=>[.obj c 129 (aN a0 z_a0),.obj b1 110 (.agg (.pair (I y6.1) (I y6.2.1))),.obj b5 110 (.agg (.pair (I (-1:Int)) (I 0))),.inv z_a0 (bQ k a0),.inv z4 (sV y6.2.2)]) h (λK h=>?_) (λJ y h=>?_))
   .refine cP ?_;refine dm ?_;refine db (ml rfl) ?_;refine ya rfl rfl rfl (bG rfl) ⟨rfl,trivial⟩ (λhb=>?_) (λhb=>?_)
    .replace h:=fR (wu hb) h;refine dU rfl rfl rfl rfl rfl (bG rfl) ⟨rfl,rfl,trivial⟩ ?_;obtain⟨US,Ur,h⟩:=aa h;refine dU rfl rfl rfl rfl rfl (eF rfl Ur) ⟨rfl,rfl,rfl,trivial⟩ ?_;refine dU rfl rfl rfl rfl rfl (aH rfl xy) ⟨rfl,rfl,trivial⟩ ?_;refine kE 1 rfl rfl rfl rfl rfl rfl (ay rfl cL pe rfl) ⟨rfl,rfl,trivial⟩ ?_;obtain⟨UR,Up,h⟩:=aa h;refine dU rfl rfl rfl rfl rfl (co (t:=Tr) rfl IX iY Up) ⟨rfl,rfl,rfl,trivial⟩ ?_;refine df ew ?_;obtain⟨Uz,Uo,h⟩:=aa h;refine gb (co (t:=Ti) rfl BD cL Uo) ?_;refine ga (au (t:=Ti) rfl cL rfl) ?_;refine gb (i7 rfl) ?_;refine pt (nl ?_);exact jz ((),decide (0≤Uz)) h [0,1,2,3,4]
    .replace h:=dr (wv hb) h;iterate 5 refine dg ?_
     refine df ew ?_;iterate 3 refine gn ?_
     refine pf (nl ?_);exact jz ((),false) h [0,1,2,3,4]
   .refine cv h (λh=>?_) (λh=>?_)
    .refine sk (aj (ab (mq ?_)));obtain⟨Uy,Un,h⟩:=aa h;refine jb (eF rfl Un) ?_;refine aq (aC (bn ?_));exact jz ((),Uy) h [0,1,2,3,4]
    .refine xa ?_;exact jz ((),s) h [0,1,2,3,4]
  .refine ak (sr (mq ?_));refine jb (i8 rfl) ?_;refine nt (ci h (λh=>?_) (λh=>?_))
   .refine sr (mq ?_);refine fr 1 ?_;refine lo jB ?_;refine fr 2 ?_;refine lo jB ?_;refine fg (eA (t:=bL) (x:=(y6.1,y6.2.1)) 36 rfl (.agg (.pair .int .int)) trivial rfl) ?_;obtain⟨Vb,Ut,h⟩:=aa h;refine fg (eA (t:=bL) (x:=((-1:Int),0)) 37 rfl (.agg (.pair .int .int)) trivial rfl) ?_;refine fr 4 ?_;refine aP rfl rfl (qz (K:=kR) (V:=kR) (t:=(y6.1,y6.2.1)) (n:=((-1:Int),0)) (l:=y6.2.2) (λ_ _ _ h=>mL h) rfl EN mf (λ_ _ _ h=>mL h) (ql (am Ut)) (qj _) qm) ⟨rfl,rfl,rfl,trivial⟩ ?_;refine nt (sr (mq ?_));refine aq (nt (rx (br (ba ?_))));refine bU (SE.fin (Γ':=[(6,_)]) [0,3,4,1,2] ⟨rfl,trivial⟩ rfl) ?_;obtain rfl:=hR _ h;exact aO z4 [.eq (.map (some z4))] 3 ⟨rfl,trivial⟩ rfl
   .refine sk (ak (rj ?_));refine bN rfl rfl rfl (bG rfl) ⟨rfl,trivial⟩ ?_;refine bN rfl rfl rfl (bG rfl) ⟨rfl,trivial⟩ ?_;obtain⟨UQ,zz,h⟩:=aa h;refine bN rfl rfl rfl (eF rfl zz) ⟨rfl,rfl,trivial⟩ ?_;obtain⟨Ux,qt,h⟩:=aa h;refine bN rfl rfl rfl (co (t:=Tr) rfl IX iY qt) ⟨rfl,rfl,trivial⟩ ?_;refine bN rfl rfl rfl (au (t:=Tr) rfl iY rfl) ⟨rfl,trivial⟩ ?_;refine bN rfl rfl rfl (aH rfl xy) ⟨rfl,trivial⟩ ?_;refine gU 1 rfl rfl rfl rfl (ay rfl cL pe rfl) ⟨rfl,trivial⟩ ?_;refine bN rfl rfl rfl (bG rfl) ⟨rfl,trivial⟩ ?_;obtain⟨Uw,mw,h⟩:=aa h;refine bN rfl rfl rfl (eF rfl mw) ⟨rfl,rfl,trivial⟩ ?_;obtain⟨j,Uu,h⟩:=aa h;refine gU 0 rfl rfl rfl rfl (av [.tmp 39,.tmp 43,.tmp 45,.tmp 47] rfl rfl Qp rfl (ny k a0 c z_a0 Ux y6.1 Uw j Uu)) ⟨rfl,rfl,rfl,rfl,trivial⟩ ?_;refine bN rfl rfl rfl (bG rfl) ⟨rfl,trivial⟩ ?_;obtain⟨u,mc,h⟩:=aa h;refine bN rfl rfl rfl (eF rfl mc) ⟨rfl,rfl,trivial⟩ ?_;refine bN rfl rfl rfl (dY [(0,.tmp 48,_),(1,.tmp 50,_)] rfl Gw sM Bz (jC ⟨rfl,rfl,trivial⟩) rfl) ⟨rfl,rfl,trivial⟩ ?_;refine LR (NQ 110 (.agg (.pair (I 0) (I 0)))) (λ_=>rfl) rfl rfl rfl (bo rfl sM zP) trivial ?_;refine uS 14 [true,true,true,true,true,true,true,true,true,true,true,true,true,true] [] [] [] rfl (by kernel_rfl) (by kernel_rfl) (by kernel_rfl) ew (λvs hv hB=>?_);obtain⟨w0,U8,rfl,UI⟩:=ax hv;obtain⟨w1,U7,rfl,UH⟩:=ax UI;obtain⟨w2,U6,rfl,UG⟩:=ax UH;obtain⟨w3,U2,rfl,UF⟩:=ax UG;obtain⟨w4,U1,rfl,UE⟩:=ax UF;obtain⟨w5,U0,rfl,UD⟩:=ax UE;obtain⟨w6,UZ,rfl,UC⟩:=ax UD;obtain⟨w7,UY,rfl,UB⟩:=ax UC;obtain⟨w8,UX,rfl,UA⟩:=ax UB;obtain⟨w9,UP,rfl,gw⟩:=ax UA;obtain⟨UW,UO,rfl,Y⟩:=ax gw;obtain⟨UV,UN,rfl,X⟩:=ax Y;obtain⟨UU,UM,rfl,U⟩:=ax X;obtain⟨UT,UL,rfl,Q⟩:=ax U;obtain rfl:=qK Q;obtain⟨E,rfl⟩:=NP hB.2.2.2.2.2.2.2.2.2.2.2.2.2.1;refine⟨[0,1,2,3,4,5],[.obj c 129 (aN a0 z_a0),.obj b1 110 (.agg (.pair (I y6.1) (I y6.2.1))),.obj b5 110 (.agg (.pair (I (-1:Int)) (I 0))),.inv z_a0 (bQ k a0),.inv z4 (sV y6.2.2),.obj E 110 (.agg (.pair (I 0) (I 0)))],by kernel_rfl,by decide,?_⟩;refine rf 5 rfl ?_;refine sH rfl rfl (aM rfl jB trivial rfl rfl) ⟨rfl,rfl,trivial⟩ (by kernel_rfl) ?_;refine xX ?_;refine bU (SE.fin (Γ':=[(0,Pt c),(5,Pt b1),(7,.at (.arr 7 Tr) r2),(8,.eq (.map (some z4))),(9,Pt b5),(11,Pt E)]) (Δ':=[.obj E 110 (.agg (.pair (I j) (I u))),.obj c 129 (aN a0 z_a0),.obj b1 110 (.agg (.pair (I y6.1) (I y6.2.1))),.obj b5 110 (.agg (.pair (I (-1:Int)) (I 0))),.inv z_a0 (bQ k a0),.inv z4 (sV y6.2.2)]) [0,1,2,3,4,5] ⟨rfl,rfl,rfl,rfl,rfl,rfl,trivial⟩ rfl) ?_;refine tn (sr (mq ?_));refine fr 2 ?_;refine lo jB ?_;refine fr 1 ?_;refine lo jB ?_;refine fg (eA (t:=bL) (x:=(y6.1,y6.2.1)) 53 rfl (.agg (.pair .int .int)) trivial rfl) ?_;obtain⟨Va,Us,h⟩:=aa h;refine fg (eA (t:=bL) (x:=(j,u)) 54 rfl (.agg (.pair .int .int)) trivial rfl) ?_;refine fr 5 ?_;refine aP rfl rfl (qz (K:=kR) (V:=kR) (t:=(y6.1,y6.2.1)) (n:=(j,u)) (l:=y6.2.2) (λ_ _ _ h=>mL h) rfl EN mf (λ_ _ _ h=>mL h) (ql (am Us)) (qj _) qm) ⟨rfl,rfl,rfl,trivial⟩ ?_
    refine nt (ab (fr 1 ?_));refine lo jB ?_;refine fr 2 ?_;refine aP rfl rfl (aM rfl jB trivial rfl rfl) ⟨rfl,rfl,trivial⟩ ?_;refine aC (bn ?_);exact jz ((),(j,u,A3 y6.2.2 (y6.1,y6.2.1) (j,u))) h [3,0,4,5,2]
 .
  refine an ?_;exact jz ((),(x8.1,x8.2.1,x8.2.2)) h [0,1,2,3,4]
def kA(k:Nat)(r7:(List (fA×fA))):Nat->(Int×Int×(List Int))->Option (List Int)
 |0,_=>none
 |n+1,c=>
  (cK (yz (c.1,c.2.1))).bind λ_=>
  if¬((mV r7 (c.1,c.2.1) (0,0))=((-1:Int),0)) then((cK (yz (c.1,c.2.1))).bind λ_=>
  (cK (cf (length c.2.2+length [(mV r7 (c.1,c.2.1) (0,0)).1]))).bind λ_=>
  (cK (yz (c.1,c.2.1))).bind λ_=>
  kA k r7 n ((mV r7 (c.1,c.2.1) (0,0)).1,(mV r7 (c.1,c.2.1) (0,0)).2,c.2.2++[(mV r7 (c.1,c.2.1) (0,0)).1])) else(some c.2.2)
def rU(k:Nat)(a0:ae)(a1:(List Int))(a2:Int):Option ((List Int)×Int):=
 (jF k a0 a1 [a2] ([]:(List Int)) ([]:(List Int))).bind λr2=>
 fQ r2.1 (if¬(r2.2.2=0) then(some (([]:(List Int)),r2.2.2)) else(none)) (λq3=>if¬(r2.2.2=0) then(some (([]:(List Int)),r2.2.2)) else((dV k q3 r2.2.1 a2).bind λr5=>
 if r5 < 0 then(some (([]:(List Int)),11)) else((lg k q3 r2.2.1 (a2,r5)).bind λr7=>
 ((kA k r7 k (a2,r5,[a2])):Option ((List Int))).bind λc=>
 (jX k c).bind λe=>
 some (e,0))))
theorem xi(k:Nat)(a0:ae)(a1:(List Int))(a2:Int)(r:(List Int)×Int)(h:rU k a0 a1 a2=some r):
 bW (dP Tryz.prog) 29 [.rep ap a0,.rep Tl a1,I a2] [] (λ_:Unit=>(bI [.rep Tl r.1,I r.2],[])):=by
 unfold rU at h
 replace h:=bi h
 refine bW.of 64 Tryz.func29 rfl Tryz.ntmps29 rfl λS w0=>?_
 refine sr ?_
 refine bx λb1=>?_
 refine cq ?_
 refine cq ?_
 refine nt ?_
 refine sr ?_
 refine lo im ?_
 iterate 2 refine mq ?_
 refine ja (bg (t:=Ti) [(.tmp 19,_)] [a2] rfl rfl dR (.cons rfl .int .nil) rfl rfl) ?_
 obtain⟨r2,Y,h⟩:=aa h
 have u:=lM k a0 a1 [a2] ([]:(List Int)) ([]:(List Int)) r2 Y
 rcases hr:r2.1 with _ |q3
 .
  rw [hr] at h u;replace h:=uC h;refine aI (Δ:=[]) (F:=_) (λ_ _ _=>ag rfl _) rfl rfl (bT (N:=[(.tmp 17,.rep ap a0),(.tmp 18,.rep Tl a1),(.tmp 20,.rep Tl [a2]),(.const (.slice none 0 0),.eq (.slice none 0 0)),(.const (.slice none 0 0),.eq (.slice none 0 0))]) (aS [.tmp 17,.tmp 18,.tmp 20,.const (.slice none 0 0),.const (.slice none 0 0)] rfl rfl zu rfl u) λ_ _ _ hn=>⟨hn.1,hn.2.1,hn.2.2.1,(aF (t:=Tl) (x:=([]:(List Int))) .nil rfl rfl hn.2.2.2.1),(aF (t:=Tl) (x:=([]:(List Int))) .nil rfl rfl hn.2.2.2.2.1),trivial⟩) ⟨rfl,rfl,rfl,rfl,rfl,trivial⟩ λ_=>?_;refine mq ?_;refine xr ?_;refine xr ?_;refine xr ?_;refine aq ?_;refine aq ?_;refine aq (nt (ak (sr ?_)));refine mq ?_;refine jb (eQ rfl) ?_;refine nt (cn h (λh=>?_) (λh=>?_))
  .refine sr (mq ?_);refine cq ?_;refine aq (nt (rx ?_));refine bU (eA (t:=Tl) (x:=([]:(List Int))) 6 rfl .nil rfl rfl) ?_;cases h;exact rb
  .cases h
 .
  rw [hr] at h u;replace h:=uB h;refine aI (Δ:=[]) (F:=_) (λ_ _ _=>ag rfl _) rfl rfl (bT (N:=[(.tmp 17,.rep ap a0),(.tmp 18,.rep Tl a1),(.tmp 20,.rep Tl [a2]),(.const (.slice none 0 0),.eq (.slice none 0 0)),(.const (.slice none 0 0),.eq (.slice none 0 0))]) (aS [.tmp 17,.tmp 18,.tmp 20,.const (.slice none 0 0),.const (.slice none 0 0)] rfl rfl zu rfl u) λ_ _ _ hn=>⟨hn.1,hn.2.1,hn.2.2.1,(aF (t:=Tl) (x:=([]:(List Int))) .nil rfl rfl hn.2.2.2.1),(aF (t:=Tl) (x:=([]:(List Int))) .nil rfl rfl hn.2.2.2.2.1),trivial⟩) ⟨rfl,rfl,rfl,rfl,rfl,trivial⟩ λz4=>?_;refine mq ?_;refine xr ?_;refine xr ?_;refine xr ?_;refine aq ?_;refine aq ?_;refine aq (nt (ak (sr ?_)));refine mq ?_;refine jb (eQ rfl) ?_;refine nt (cn h (λh=>?_) (λh=>?_))
  .refine sr (mq ?_);refine cq ?_;refine aq (nt (rx ?_));refine bU (eA (t:=Tl) (x:=([]:(List Int))) 6 rfl .nil rfl rfl) ?_;cases h;exact rb
  .refine sk (sr ?_);iterate 3 refine mq ?_
   obtain⟨r5,X,h⟩:=aa h;refine fr 1 ?_;refine fr 1 ?_;refine aI (Δ:=[_,_]) (F:=_) (λ_ _ _=>ag rfl _) rfl rfl (aS [.tmp 28,.tmp 29,.tmp 30] rfl rfl On rfl (ip k q3 z4.1 z4.2 r2.2.1 a2 r5 X)) ⟨rfl,rfl,rfl,trivial⟩ λ_=>?_;refine aq (nt (ak (sr ?_)));refine mq ?_;refine jb (bH rfl) ?_;refine nt (ci h (λh=>?_) (λh=>?_))
   .refine sr (cq ?_);refine cq (nt (rx ?_));refine bU (eA (t:=Tl) (x:=([]:(List Int))) 6 rfl .nil rfl rfl) ?_;cases h;exact rb
   .refine sk (sr ?_);iterate 2 refine mq ?_
    refine jb (dY [(0,.tmp 34,_),(1,.tmp 35,_)] rfl Gw sM Bz (jC ⟨rfl,rfl,trivial⟩) rfl) ?_;refine aX rfl rfl rfl (bo rfl sM zP) trivial λb6=>?_;refine aP rfl rfl (aM rfl jB trivial rfl rfl) ⟨rfl,rfl,trivial⟩ ?_;refine nt (sr ?_);iterate 2 refine mq ?_
    refine lo jB ?_;obtain⟨r7,U,h⟩:=aa h;refine fr 2 ?_;refine fr 2 ?_;refine aI (Δ:=[_,_]) (F:=_) (λ_ _ _=>ag rfl _) rfl rfl (bT (N:=[(.tmp 37,.eq (.pointer (some ⟨z4.1,0,none⟩))),(.tmp 38,.eq (.int .u8 r2.2.1)),(.tmp 39,.agg (.pair (I a2) (I r5)))]) (aS [.tmp 37,.tmp 38,.tmp 39] rfl rfl SK rfl (qH k q3 z4.1 z4.2 r2.2.1 (a2,r5) r7 U)) λ_ _ _ hn=>⟨hn.1,hn.2.1,(aF (t:=bL) (x:=(a2,r5)) (.agg (.pair .int .int)) trivial rfl hn.2.2.1),trivial⟩) ⟨rfl,rfl,rfl,trivial⟩ λz8=>?_;refine aq (nt (sr ?_));refine mq ?_;refine aX rfl rfl rfl (mN (t:=Ti) [(.tmp 41,_)] [a2] rfl rfl dR (.cons rfl .int .nil) rfl rfl) ⟨rfl,trivial⟩ λv9=>?_;refine aq (nt ?_);refine aG (Z:=Value) (α:=(List Int)) (λj s=>[(13,.eq (.map (some z8))),(14,.eq j)]) (λj s=>[.sl j 3 Ti s,.inv z4.2 (bQ k q3),.inv z8 (sV r7)]) h (λK h=>?_) (λj s h=>?_)
    .refine sr (ja (dY [(0,.const (.int .i64 (-1)),_)] rfl Gw sM Bz (jC ⟨rfl,trivial⟩) rfl) ?_);refine aX rfl rfl rfl (bo rfl sM zP) trivial λmc=>?_;refine aP rfl rfl (aM rfl jB trivial rfl rfl) ⟨rfl,rfl,trivial⟩ ?_;refine nt (aj (aE (λe c=>[(12,Pt b6),(13,.eq (.map (some z8))),(14,.eq e.1),(15,.eq (.pointer (some ⟨e.2,0,none⟩)))]) (λe c=>[.obj b6 110 (.agg (.pair (I c.1) (I c.2.1))),.sl e.1 3 Ti c.2.2,.obj e.2 110 (.agg (.pair (I (-1:Int)) (I 0))),.inv z4.2 (bQ k q3),.inv z8 (sV r7)]) (kA k r7) k (v9,mc) (a2,r5,[a2]) (λ_=>rfl) h (SE.fin [5,1,0,4,2] ⟨rfl,rfl,rfl,rfl,trivial⟩ rfl) (λn e c h=>?_)));unfold kA at h;refine ak (ak (cP ?_));refine dm ?_;refine ea 0 (ay rfl jB (tj) rfl) ?_;obtain⟨zz,J,h⟩:=aa h;refine eb 4 (bT (N:=[(.tmp 44,.eq (.map (some z8))),(.tmp 45,.agg (.pair (I c.1) (I c.2.1)))]) (rJ (K:=kR) (V:=kR) (t:=(c.1,c.2.1)) (l:=r7) (λn=>.rep bL n) tD rfl EN (0,0) tC mf (λ_ _ _ h=>mL h) (ql (am J)) (qj _) qm) λ_ _ _ hn=>⟨hn.1,(aF (t:=bL) (x:=(c.1,c.2.1)) (.agg (.pair .int .int)) trivial rfl hn.2.1),trivial⟩) ?_;refine ea 2 (ay rfl jB (tj) rfl) ?_;refine df ew ?_;refine fg (eA (t:=bL) (x:=((-1:Int),0)) 47 rfl (.agg (.pair .int .int)) trivial rfl) ?_;refine jb (NV rfl Qn rfl) ?_;refine nt (cn h (λh=>?_) (λh=>?_))
     .refine sk (ak (aj (ab ?_)));iterate 2 refine mq ?_
      refine lo jB ?_;refine fg (eA (t:=bL) (x:=(c.1,c.2.1)) 54 rfl (.agg (.pair .int .int)) trivial rfl) ?_;obtain⟨u16,E,h⟩:=aa h;refine fr 4 ?_;refine kb (bT (N:=[(.tmp 53,.eq (.map (some z8))),(.tmp 54,.rep bL (c.1,c.2.1))]) (rJ (K:=kR) (V:=kR) (t:=(c.1,c.2.1)) (l:=r7) (λn=>.rep bL n) tD rfl EN (0,0) tC mf (λ_ _ _ h=>mL h) (ql (am E)) (qj _) qm) λ_ _ _ hn=>⟨hn.1,hn.2.1,trivial⟩) ?_;refine ja (JR rfl TF rfl cL (λ_=>rfl) rfl rfl rfl) ?_;refine ja (bg (t:=Ti) [(.tmp 56,_)] [(mV r7 (c.1,c.2.1) (0,0)).1] rfl rfl dR (.cons rfl .int .nil) rfl rfl) ?_;obtain⟨qt,D,h⟩:=aa h;refine fr 2 ?_;refine eK rfl rfl rfl (cN rfl rfl dR (am D)) ⟨rfl,rfl,trivial⟩ λO=>?_;refine aq (aC (aR (tn (ak (sr ?_)))));refine fr 3 ?_;refine lo jB ?_;refine nt (ab (aX rfl rfl rfl (bo rfl sM zP) trivial λgw=>?_));refine aP rfl rfl (aM rfl jB trivial rfl rfl) ⟨rfl,rfl,trivial⟩ ?_;refine nt (ab (mq ?_));refine fr 4 ?_;refine lo jB ?_;refine fg (eA (t:=bL) (x:=(c.1,c.2.1)) 50 rfl (.agg (.pair .int .int)) trivial rfl) ?_;obtain⟨mw,y,h⟩:=aa h;refine fr 4 ?_;refine kb (bT (N:=[(.tmp 49,.eq (.map (some z8))),(.tmp 50,.rep bL (c.1,c.2.1))]) (rJ (K:=kR) (V:=kR) (t:=(c.1,c.2.1)) (l:=r7) (λn=>.rep bL n) tD rfl EN (0,0) tC mf (λ_ _ _ h=>mL h) (ql (am y)) (qj _) qm) λ_ _ _ hn=>⟨hn.1,hn.2.1,trivial⟩) ?_;refine fr 1 ?_;refine aP rfl rfl (aM rfl jB rfl rfl rfl) ⟨rfl,rfl,trivial⟩ ?_;refine nl (bU (ik (a:=.rep bL (mV r7 (c.1,c.2.1) (0,0))) (a':=.agg (.pair (I ((mV r7 (c.1,c.2.1) (0,0)).1)) (I ((mV r7 (c.1,c.2.1) (0,0)).2)))) (AE.trans DD (AE.agg (AE.trans Ac (AE.pair AE.int AE.int))))) ?_);exact jz ((O,gw),((mV r7 (c.1,c.2.1) (0,0)).1,(mV r7 (c.1,c.2.1) (0,0)).2,c.2.2++[(mV r7 (c.1,c.2.1) (0,0)).1])) h [0,4,2,5,1]
     .refine xa ?_;exact jz (e.1,c.2.2) h [1,3,4]
    .refine sr (mq ?_);refine fr 2 ?_;refine aP rfl rfl (GO rfl rfl EN) ⟨rfl,trivial⟩ ?_;refine nt (sr (mq ?_));obtain⟨Q,M,h⟩:=aa h;refine fr 1 ?_;refine ka (av [.tmp 61] rfl rfl SJ rfl (pC k s j Q M)) ?_;refine nt (sr (mq ?_));refine aq ?_;refine cq (nt (aA ?_));refine bU (jp [6,14,61,63] ⟨rfl,rfl,rfl,rfl,trivial⟩) ?_;cases h;exact rb
def lN(k:Nat)(a0:ae)(a1:Int)(r2:(Option ae)×(List Int)×Int)(q3:ae)(y7:(List Int)×Int):Nat->(Int×Int)->Option Int
 |0,_=>none
 |n+1,c=>
  if c.2 < (r2.2.1.length:Int) then((((aQ r2.2.1 c.2).bind λr=>
  (lq k q3 r).bind λu=>
  (aQ u a1).bind λl=>
  (aQ l y7.2).bind λj=>
  if a0.2.2.1≤j then((ck (c.1+1)).bind λh=>
  some h) else(some c.1)):Option (Int)).bind λs=>
  (ck (c.2+1)).bind λe=>
  lN k a0 a1 r2 q3 y7 n (s,e)) else(some c.1)
def lO(k:Nat)(a0:ae)(a1:Int)(r2:(Option ae)×(List Int)×Int)(q3:ae):Nat->((List Int)×Int)->Option (List Int)
 |0,_=>none
 |n+1,y7=>
  if y7.2 < a0.1 then(((((lN k a0 a1 r2 q3 y7 k (0,0)):Option (Int)).bind λc=>
  (ck ((r2.2.1.length:Int) - c)).bind λe=>
  (cK (cf (length y7.1+length [mX c e]))).bind λ_=>
  some (y7.1++[mX c e])):Option ((List Int))).bind λx9=>
  (ck (y7.2+1)).bind λh=>
  lO k a0 a1 r2 q3 n (x9,h)) else(some y7.1)
def ue(k:Nat)(a0:ae)(a1:Int):Option (Int×Int×Int):=
 (iy k a0 ([]:(List Int)) ([]:(List Int)) [a1]).bind λr2=>
 fQ r2.1 (if¬(r2.2.2=0) then(some (0,0,r2.2.2)) else(none)) (λq3=>if¬(r2.2.2=0) then(some (0,0,r2.2.2)) else(((lO k a0 a1 r2 q3 k (([]:(List Int)),0)):Option ((List Int))).bind λx5=>
 (lH k x5).bind λc=>
 if(r2.2.1.length:Int)≤c then(some (0,0,11)) else((f7 k x5 c).bind λe=>
 some (e,c,0))))
theorem yX(k:Nat)(a0:ae)(a1:Int)(r:Int×Int×Int)(h:ue k a0 a1=some r):
 bW (dP Tryz.prog) 48 [.rep ap a0,I a1] [] (λ_:Unit=>(bI [I r.1,I r.2.1,I r.2.2],[])):=by
 unfold ue at h
 replace h:=bi h
 refine bW.of 71 Tryz.func48 rfl Tryz.ntmps48 rfl λS w0=>?_
 refine sr ?_
 refine bx λb1=>?_
 refine cq ?_
 refine cq ?_
 refine cq ?_
 refine nt ?_
 refine sr ?_
 refine lo im ?_
 refine mq ?_
 refine ja (bg (t:=Ti) [(.tmp 18,_)] [a1] rfl rfl dR (.cons rfl .int .nil) rfl rfl) ?_
 obtain⟨r2,Uw,h⟩:=aa h
 have s:=kx k a0 ([]:(List Int)) ([]:(List Int)) [a1] r2 Uw
 rcases hr:r2.1 with _ |q3
 .
  rw [hr] at h s;replace h:=uC h;refine aI (Δ:=[]) (F:=_) (λ_ _ _=>ag rfl _) rfl rfl (bT (N:=[(.tmp 17,.rep ap a0),(.const (.slice none 0 0),.eq (.slice none 0 0)),(.const (.slice none 0 0),.eq (.slice none 0 0)),(.tmp 19,.rep Tl [a1])]) (aS [.tmp 17,.const (.slice none 0 0),.const (.slice none 0 0),.tmp 19] rfl rfl zt rfl s) λ_ _ _ hn=>⟨hn.1,(aF (t:=Tl) (x:=([]:(List Int))) .nil rfl rfl hn.2.1),(aF (t:=Tl) (x:=([]:(List Int))) .nil rfl rfl hn.2.2.1),hn.2.2.2.1,trivial⟩) ⟨rfl,rfl,rfl,rfl,trivial⟩ λ_=>?_;refine mq ?_;refine xr ?_;refine xr ?_;refine xr ?_;refine aq ?_;refine aq ?_;refine aq (nt (ak (sr ?_)));refine mq ?_;refine jb (eQ rfl) ?_;refine nt (cn h (λh=>?_) (λh=>?_))
  .refine sr (mq ?_);refine cq ?_;refine cq ?_;refine aq (nt (rx ?_));cases h;exact aO () [_,_,_] 0 ⟨rfl,rfl,rfl,trivial⟩ rfl
  .cases h
 .
  rw [hr] at h s;replace h:=uB h;refine aI (Δ:=[]) (F:=_) (λ_ _ _=>ag rfl _) rfl rfl (bT (N:=[(.tmp 17,.rep ap a0),(.const (.slice none 0 0),.eq (.slice none 0 0)),(.const (.slice none 0 0),.eq (.slice none 0 0)),(.tmp 19,.rep Tl [a1])]) (aS [.tmp 17,.const (.slice none 0 0),.const (.slice none 0 0),.tmp 19] rfl rfl zt rfl s) λ_ _ _ hn=>⟨hn.1,(aF (t:=Tl) (x:=([]:(List Int))) .nil rfl rfl hn.2.1),(aF (t:=Tl) (x:=([]:(List Int))) .nil rfl rfl hn.2.2.1),hn.2.2.2.1,trivial⟩) ⟨rfl,rfl,rfl,rfl,trivial⟩ λz4=>?_;refine mq ?_;refine xr ?_;refine xr ?_;refine xr ?_;refine aq ?_;refine aq ?_;refine aq (nt (ak (sr ?_)));refine mq ?_;refine jb (eQ rfl) ?_;refine nt (cn h (λh=>?_) (λh=>?_))
  .refine sr (mq ?_);refine cq ?_;refine cq ?_;refine aq (nt (rx ?_));cases h;exact aO () [_,_,_] 0 ⟨rfl,rfl,rfl,trivial⟩ rfl
  .refine sk (sr (cq (nt ?_)));refine aG (Z:=Value) (α:=(List Int)) (λz6 x5=>[(8,.rep (.slice (.int .u8)) r2.2.1),(10,.eq z6)]) (λz6 x5=>[.sl z6 3 Ti x5,.inv z4.2 (bQ k q3)]) h (λK h=>?_) (λz6 x5 h=>?_)
   .refine sr (fl gA ?_);refine fr 2 ?_;refine lo cL ?_;refine eG rfl ?_;refine nt (aj (jd (SE.nil 3 Ti) ?_));refine aE (λz8 y7=>[(1,I a1),(2,Pt b1),(7,.eq (.pointer (some ⟨z4.1,0,none⟩))),(8,.rep (.slice (.int .u8)) r2.2.1),(10,.eq z8),(28,I a0.1),(29,I y7.2)]) (λz8 y7=>[.obj b1 26 (.rep ap a0),.obj z4.1 129 (aN q3 z4.2),.sl z8 3 Ti y7.1,.inv z4.2 (bQ k q3)]) (lO k a0 a1 r2 q3) k (.slice none 0 0) (([]:(List Int)),0) (λ_=>rfl) h (SE.fin [1,2,0,3] ⟨rfl,rfl,rfl,rfl,rfl,rfl,rfl,trivial⟩ rfl) (λn z8 y7 h=>?_);unfold lO at h;refine sr (jb (bH rfl) ?_);refine nt (ak (ci h (λh=>?_) (λh=>?_)))
    .refine sk (aG (Z:=Value) (α:=(List Int)) (λe x9=>[(1,I a1),(2,Pt b1),(7,.eq (.pointer (some ⟨z4.1,0,none⟩))),(8,.rep (.slice (.int .u8)) r2.2.1),(10,.eq e),(28,I a0.1),(29,I y7.2)]) (λe x9=>[.obj b1 26 (.rep ap a0),.obj z4.1 129 (aN q3 z4.2),.sl e 3 Ti x9,.inv z4.2 (bQ k q3)]) h (λK h=>?_) (λe x9 h=>?_))
     .refine aj (sr (mq ?_));refine aq (nt (sr ?_));refine cq (nt ?_);refine aG (Z:=Unit) (α:=Int) (λE j=>[(1,I a1),(2,Pt b1),(7,.eq (.pointer (some ⟨z4.1,0,none⟩))),(8,.rep (.slice (.int .u8)) r2.2.1),(10,.eq z8),(12,I j),(28,I a0.1),(29,I y7.2)]) (λE j=>[.obj b1 26 (.rep ap a0),.obj z4.1 129 (aN q3 z4.2),.sl z8 3 Ti y7.1,.inv z4.2 (bQ k q3)]) h (λK h=>?_) (λE j h=>?_)
      .refine sr (mq ?_);refine ol yg ?_;refine eG rfl ?_;refine nt (aj (aE (λD c=>[(1,I a1),(2,Pt b1),(7,.eq (.pointer (some ⟨z4.1,0,none⟩))),(8,.rep (.slice (.int .u8)) r2.2.1),(10,.eq z8),(11,I y7.2),(12,I c.1),(28,I a0.1),(29,I y7.2),(32,.rep (.slice (.int .u8)) r2.2.1),(33,I (r2.2.1.length:Int)),(34,I c.2)]) (λD c=>[.obj b1 26 (.rep ap a0),.obj z4.1 129 (aN q3 z4.2),.sl z8 3 Ti y7.1,.inv z4.2 (bQ k q3)]) (lN k a0 a1 r2 q3 y7) k () (0,0) (λ_=>rfl) h (SE.fin [0,1,2,3] ⟨rfl,rfl,rfl,rfl,rfl,rfl,rfl,rfl,rfl,rfl,rfl,rfl,trivial⟩ rfl) (λn D c h=>?_)));unfold lN at h;refine sr (jb (bH rfl) ?_);refine nt (ak (ci h (λh=>?_) (λh=>?_)))
       .refine sk (aG (Z:=Unit) (α:=Int) (λy l=>[(1,I a1),(2,Pt b1),(7,.eq (.pointer (some ⟨z4.1,0,none⟩))),(8,.rep (.slice (.int .u8)) r2.2.1),(10,.eq z8),(11,I y7.2),(12,I l),(28,I a0.1),(29,I y7.2),(32,.rep (.slice (.int .u8)) r2.2.1),(33,I (r2.2.1.length:Int)),(34,I c.2)]) (λy l=>[.obj b1 26 (.rep ap a0),.obj z4.1 129 (aN q3 z4.2),.sl z8 3 Ti y7.1,.inv z4.2 (bQ k q3)]) h (λK h=>?_) (λy l h=>?_))
        .refine aj (sr ?_);obtain⟨Ur,gw,h⟩:=aa h;refine jb (aY (t:=(.int .u8)) rfl yg nG gw) ?_;refine ja (au (t:=(.int .u8)) rfl nG rfl) ?_;refine aq (nt (ak ?_));refine cP ?_;refine dm ?_;refine dm ?_;obtain⟨Uu,zz,h⟩:=aa h;refine OX 1 3 rfl rfl (by kernel_rfl) rfl rfl rfl (aS [.tmp 38,.tmp 39] rfl rfl Eo rfl (oQ k q3 z4.1 z4.2 Ur Uu zz)) ⟨rfl,rfl,trivial⟩ ?_;refine dm ?_;obtain⟨Uy,Y,h⟩:=aa h;refine db (nQ (t:=Tr) rfl IX iY rfl rfl (tj) Y) ?_;refine dm ?_;obtain⟨Ux,X,h⟩:=aa h;refine db (nQ (t:=Ti) rfl BD cL rfl rfl (λ_=>rfl) X) ?_;refine da (aH rfl Bi) ?_;refine ea 0 (ay rfl cL pe rfl) ?_;refine df ew ?_;refine jb (i7 rfl) ?_;refine nt (ci h (λh=>?_) (λh=>?_))
         .refine ab (mq ?_);obtain⟨Up,U,h⟩:=aa h;refine jb (bu rfl U) ?_;refine aq (aC (bn ?_));exact jz ((),Up) h [0,1,2,3]
         .refine bf (bn ?_);exact jz ((),c.1) h [0,1,2,3]
        .refine ab ?_;obtain⟨Uo,Q,h⟩:=aa h;refine jb (bu rfl Q) ?_;refine mq (nl ?_);exact jz ((),(l,Uo)) h [0,1,2,3]
       .refine xa ?_;exact jz ((),c.1) h [0,1,2,3]
      .refine ab ?_;iterate 3 refine mq ?_
       refine ol yg ?_;refine mq ?_;obtain⟨J,O,h⟩:=aa h;refine jb (eF rfl O) ?_;refine jb (GK rfl rfl) ?_;refine ja (bg (t:=Ti) [(.tmp 57,_)] [mX j J] rfl rfl dR (.cons rfl .int .nil) rfl rfl) ?_;obtain⟨Uz,mc,h⟩:=aa h;refine fr 2 ?_;refine eK rfl rfl rfl (cN rfl rfl dR (am mc)) ⟨rfl,rfl,trivial⟩ λUs=>?_;refine aq (aC (bn ?_));exact jz (Us,y7.1++[mX j J]) h [1,2,0,3]
     .refine ab ?_;obtain⟨Un,M,h⟩:=aa h;refine jb (bu rfl M) ?_;refine mq (nl ?_);exact jz (e,(x9,Un)) h [0,1,2,3]
    .refine xa ?_;exact jz (z8,y7.1) h [2,3]
   .refine sr (mq ?_);obtain⟨u,qt,h⟩:=aa h;refine ka (lx (N:=[(.tmp 61,.eq z6)]) (av [.tmp 61] rfl rfl Qz rfl (nJ k x5 u qt)) (λ_ _ _ hv hn=>⟨(lend hn.1 hv),trivial⟩) (λ_=>⟨rfl,oe⟩)) ?_;refine aq (nt (ak (sr ?_)));iterate 2 refine mq ?_
    refine ol yg ?_;refine jb (i7 rfl) ?_;refine nt (ci h (λh=>?_) (λh=>?_))
    .refine sr (cq ?_);refine cq ?_;refine cq (nt (rx ?_));cases h;exact aO () [_,_,_] 0 ⟨rfl,rfl,rfl,trivial⟩ rfl
    .refine sk (sr ?_);iterate 2 refine mq ?_
     obtain⟨Ut,mw,h⟩:=aa h;refine kb (lx (N:=[(.tmp 67,.eq z6),(.tmp 68,I u)]) (av [.tmp 67,.tmp 68] rfl rfl Qu rfl (mh k x5 u Ut mw)) (λ_ _ _ hv hn=>⟨(lend hn.1 hv),hn.2.1,trivial⟩) (λ_=>⟨rfl,oe⟩)) ?_;refine mq ?_;refine aq ?_;refine aq ?_;refine cq (nt (aA ?_));cases h;exact aO () [_,_,_] 0 ⟨rfl,rfl,rfl,trivial⟩ rfl
def qL(k:Nat):Option Bool:=
 (iz k ([]:(List bF))).bind λr1=>
 (iq k r1 [0]).bind λr2=>
 (iz k ([]:(List bF))).bind λr3=>
 (ir k r3).bind λr4=>
 (iz k ([]:(List bF))).bind λr5=>
 (rT k r5 2).bind λr6=>
 (iz k ([]:(List bF))).bind λr8=>
 (rU k r8 [0] 3).bind λr9=>
 (iz k ([]:(List bF))).bind λu=>
 (ue k u 2).bind λc=>
 (iz k ([]:(List bF))).bind λs=>
 (pR k s 2).bind λe=>
 ((if r2.2=0 then(if r4.2=0 then(if r6.2=0 then(if r9.2=0 then(if c.2.2=0 then(if e.2=0 then(if r6.1=(1,3) then(if c.1=2 then(if c.2.1=2 then((jy k r2.1 [[1,(-1:Int),(-1:Int),(-1:Int)],[2,0,(-1:Int),(-1:Int)],[3,1,(-1:Int),(-1:Int)],[3,2,0,(-1:Int)],[(-1:Int),3,1,0]]).bind λr=>
 if r=true then((jy k r4.1 [[0],[0,1],[1]]).bind λn=>
 if n=true then((iR k r9.1 [0,1,3]).bind λl=>
 if l=true then((iR k e.1 [1,2]).bind λj=>
 some j) else(some false)) else(some false)) else(some false)) else(some false)) else(some false)) else(some false)) else(some false)) else(some false)) else(some false)) else(some false)) else(some false)) else(some false)):Option (Bool)).bind λh=>
 some h
theorem zi(k:Nat)(r:Bool)(h:qL k=some r):
 bW (dP Tryz.prog) 17 [] [] (λ_:Unit=>(bI [.eq (.bool r)],[])):=by
 unfold qL at h
 replace h:=bi h
 refine bW.of 110 Tryz.func17 rfl Tryz.ntmps17 rfl λS w0=>?_
 refine sr ?_
 refine cq ?_
 refine nt ?_
 refine sr ?_
 obtain⟨r1,Uu,h⟩:=aa h
 have UD:=gG k ([]:(List bF)) r1 Uu
 refine ja (bT (N:=[(.const (.slice none 0 0),.eq (.slice none 0 0))]) (av [.const (.slice none 0 0)] rfl rfl En rfl UD) λ_ _ _ hn=>⟨(aF (t:=(.slice bb)) (x:=([]:(List bF))) .nil rfl rfl hn.1),trivial⟩) ?_
 refine ja (bg (t:=Ti) [(.const (.int .i64 (0)),_)] [0] rfl rfl dR (.cons rfl .int .nil) rfl rfl) ?_
 obtain⟨r2,Ut,h⟩:=aa h
 have UC:=po k r1 [0] r2 Ut
 refine jb (aS [.tmp 15,.tmp 16] rfl rfl QG rfl UC) ?_
 refine mq ?_
 refine xr ?_
 refine xr ?_
 refine aq ?_
 refine aq ?_
 refine nt ?_
 refine sr ?_
 obtain⟨r3,Us,h⟩:=aa h
 have UB:=gG k ([]:(List bF)) r3 Us
 refine ja (bT (N:=[(.const (.slice none 0 0),.eq (.slice none 0 0))]) (av [.const (.slice none 0 0)] rfl rfl En rfl UB) λ_ _ _ hn=>⟨(aF (t:=(.slice bb)) (x:=([]:(List bF))) .nil rfl rfl hn.1),trivial⟩) ?_
 obtain⟨r4,Ur,h⟩:=aa h
 have UA:=pq k r3 r4 Ur
 refine ja (aS [.tmp 21] rfl rfl QI rfl UA) ?_
 refine mq ?_
 refine xr ?_
 refine xr ?_
 refine aq ?_
 refine aq ?_
 refine nt ?_
 refine sr ?_
 obtain⟨r5,Up,h⟩:=aa h
 have Uz:=gG k ([]:(List bF)) r5 Up
 refine ja (bT (N:=[(.const (.slice none 0 0),.eq (.slice none 0 0))]) (av [.const (.slice none 0 0)] rfl rfl En rfl Uz) λ_ _ _ hn=>⟨(aF (t:=(.slice bb)) (x:=([]:(List bF))) .nil rfl rfl hn.1),trivial⟩) ?_
 obtain⟨r6,Uo,h⟩:=aa h
 have Uy:=xg k r5 2 r6 Uo
 refine jb (aS [.tmp 26,.const (.int .i64 (2))] rfl rfl Tj rfl Uy) ?_
 refine mq ?_
 refine xr ?_
 refine xr ?_
 refine aX rfl rfl rfl (bo rfl Ak QO) trivial λb7=>?_
 refine aP rfl rfl (aM rfl vg rfl rfl rfl) ⟨rfl,rfl,trivial⟩ ?_
 refine aq ?_
 refine nt ?_
 refine sr ?_
 obtain⟨r8,Un,h⟩:=aa h
 have Ux:=gG k ([]:(List bF)) r8 Un
 refine ja (bT (N:=[(.const (.slice none 0 0),.eq (.slice none 0 0))]) (av [.const (.slice none 0 0)] rfl rfl En rfl Ux) λ_ _ _ hn=>⟨(aF (t:=(.slice bb)) (x:=([]:(List bF))) .nil rfl rfl hn.1),trivial⟩) ?_
 refine ja (bg (t:=Ti) [(.const (.int .i64 (0)),_)] [0] rfl rfl dR (.cons rfl .int .nil) rfl rfl) ?_
 obtain⟨r9,zz,h⟩:=aa h
 have Uw:=xi k r8 [0] 3 r9 zz
 refine jc (aS [.tmp 31,.tmp 32,.const (.int .i64 (3))] rfl rfl S5 rfl Uw) ?_
 refine mq ?_
 refine xr ?_
 refine xr ?_
 refine aq ?_
 refine aq ?_
 refine nt ?_
 refine sr ?_
 obtain⟨u,O,h⟩:=aa h
 have Y:=gG k ([]:(List bF)) u O
 refine ja (bT (N:=[(.const (.slice none 0 0),.eq (.slice none 0 0))]) (av [.const (.slice none 0 0)] rfl rfl En rfl Y) λ_ _ _ hn=>⟨(aF (t:=(.slice bb)) (x:=([]:(List bF))) .nil rfl rfl hn.1),trivial⟩) ?_
 obtain⟨qt,M,h⟩:=aa h
 have X:=yX k u 2 qt M
 refine jb (aS [.tmp 37,.const (.int .i64 (2))] rfl rfl SV rfl X) ?_
 refine mq ?_
 refine xr ?_
 refine xr ?_
 refine xr ?_
 refine aq ?_
 refine aq ?_
 refine aq ?_
 refine nt ?_
 refine sr ?_
 obtain⟨n,J,h⟩:=aa h
 have U:=gG k ([]:(List bF)) n J
 refine ja (bT (N:=[(.const (.slice none 0 0),.eq (.slice none 0 0))]) (av [.const (.slice none 0 0)] rfl rfl En rfl U) λ_ _ _ hn=>⟨(aF (t:=(.slice bb)) (x:=([]:(List bF))) .nil rfl rfl hn.1),trivial⟩) ?_
 obtain⟨l,I,h⟩:=aa h
 have Q:=vt k n 2 l I
 refine jb (aS [.tmp 43,.const (.int .i64 (2))] rfl rfl S9 rfl Q) ?_
 refine mq ?_
 refine xr ?_
 refine xr ?_
 refine aq ?_
 refine aq ?_
 refine nt ?_
 refine aG (Z:=Unit) (α:=Bool) (λe c=>[(0,.eq (.bool c))]) (λe c=>[]) h (λK h=>?_) (λe c h=>?_)
 .
  refine ab (mq ?_);refine jb (i8 rfl) ?_;refine mq ?_;refine cT (s:=49) rfl (λhb=>?_) (λhb=>?_)
  .replace h:=fR (wu hb) h;refine gm ?_;refine gb (i8 rfl) ?_;refine pt ?_;refine mq ?_;refine cT (s:=53) rfl (λhb=>?_) (λhb=>?_)
   .replace h:=fR (wu hb) h;refine gm ?_;refine gb (i8 rfl) ?_;refine pt ?_;refine mq ?_;refine cT (s:=57) rfl (λhb=>?_) (λhb=>?_)
    .replace h:=fR (wu hb) h;refine gm ?_;refine gb (i8 rfl) ?_;refine pt ?_;refine mq ?_;refine cT (s:=61) rfl (λhb=>?_) (λhb=>?_)
     .replace h:=fR (wu hb) h;refine gm ?_;refine gb (i8 rfl) ?_;refine pt ?_;refine mq ?_;refine cT (s:=65) rfl (λhb=>?_) (λhb=>?_)
      .replace h:=fR (wu hb) h;refine gm ?_;refine gb (i8 rfl) ?_;refine pt ?_;refine mq ?_;refine cT (s:=69) rfl (λhb=>?_) (λhb=>?_)
       .replace h:=fR (wu hb) h;refine nh rfl rfl rfl rfl rfl rfl (ay rfl vg (tj) rfl) ⟨rfl,trivial⟩ ?_;refine gb (dY [(0,.const (.int .i64 (1)),_),(1,.const (.int .i64 (3)),_)] rfl Gu Ak zO (jC ⟨rfl,rfl,trivial⟩) rfl) ?_;refine fg (eA (t:=bL) (x:=(1,3)) 71 rfl (.agg (.pair .int .int)) trivial rfl) ?_;refine gb (NW rfl Si rfl) ?_;refine pt ?_;refine mq ?_;refine cT (s:=74) rfl (λhb=>?_) (λhb=>?_)
        .replace h:=fR (wu hb) h;refine gm ?_;refine gb (i8 rfl) ?_;refine pt ?_;refine mq ?_;refine cT (s:=78) rfl (λhb=>?_) (λhb=>?_)
         .replace h:=fR (wu hb) h;refine gm ?_;refine gb (i8 rfl) ?_;refine pt ?_;refine mq ?_;refine cT (s:=82) rfl (λhb=>?_) (λhb=>?_)
          .replace h:=fR (wu hb) h;refine gm ?_;refine l8 rfl rfl rfl rfl rfl rfl (bg (t:=Ti) [(.const (.int .i64 (1)),_),(.const (.int .i64 (-1)),_),(.const (.int .i64 (-1)),_),(.const (.int .i64 (-1)),_)] [1,(-1:Int),(-1:Int),(-1:Int)] rfl rfl dR (.cons rfl .int (.cons rfl .int (.cons rfl .int (.cons rfl .int .nil)))) rfl rfl) ⟨rfl,rfl,rfl,rfl,trivial⟩ ?_;refine l8 rfl rfl rfl rfl rfl rfl (bg (t:=Ti) [(.const (.int .i64 (2)),_),(.const (.int .i64 (0)),_),(.const (.int .i64 (-1)),_),(.const (.int .i64 (-1)),_)] [2,0,(-1:Int),(-1:Int)] rfl rfl dR (.cons rfl .int (.cons rfl .int (.cons rfl .int (.cons rfl .int .nil)))) rfl rfl) ⟨rfl,rfl,rfl,rfl,trivial⟩ ?_;refine l8 rfl rfl rfl rfl rfl rfl (bg (t:=Ti) [(.const (.int .i64 (3)),_),(.const (.int .i64 (1)),_),(.const (.int .i64 (-1)),_),(.const (.int .i64 (-1)),_)] [3,1,(-1:Int),(-1:Int)] rfl rfl dR (.cons rfl .int (.cons rfl .int (.cons rfl .int (.cons rfl .int .nil)))) rfl rfl) ⟨rfl,rfl,rfl,rfl,trivial⟩ ?_;refine l8 rfl rfl rfl rfl rfl rfl (bg (t:=Ti) [(.const (.int .i64 (3)),_),(.const (.int .i64 (2)),_),(.const (.int .i64 (0)),_),(.const (.int .i64 (-1)),_)] [3,2,0,(-1:Int)] rfl rfl dR (.cons rfl .int (.cons rfl .int (.cons rfl .int (.cons rfl .int .nil)))) rfl rfl) ⟨rfl,rfl,rfl,rfl,trivial⟩ ?_;refine l8 rfl rfl rfl rfl rfl rfl (bg (t:=Ti) [(.const (.int .i64 (-1)),_),(.const (.int .i64 (3)),_),(.const (.int .i64 (1)),_),(.const (.int .i64 (0)),_)] [(-1:Int),3,1,0] rfl rfl dR (.cons rfl .int (.cons rfl .int (.cons rfl .int (.cons rfl .int .nil)))) rfl rfl) ⟨rfl,rfl,rfl,rfl,trivial⟩ ?_;refine l8 rfl rfl rfl rfl rfl rfl (bg (t:=Tl) [(.tmp 84,_),(.tmp 85,_),(.tmp 86,_),(.tmp 87,_),(.tmp 88,_)] [[1,(-1:Int),(-1:Int),(-1:Int)],[2,0,(-1:Int),(-1:Int)],[3,1,(-1:Int),(-1:Int)],[3,2,0,(-1:Int)],[(-1:Int),3,1,0]] rfl rfl o8 (.cons rfl .rep (.cons rfl .rep (.cons rfl .rep (.cons rfl .rep (.cons rfl .rep .nil))))) rfl rfl) ⟨rfl,rfl,rfl,rfl,rfl,trivial⟩ ?_;obtain⟨mw,F,h⟩:=aa h;refine gb (av [.tmp 83,.tmp 89] rfl rfl Qy rfl (my k r2.1 [[1,(-1:Int),(-1:Int),(-1:Int)],[2,0,(-1:Int),(-1:Int)],[3,1,(-1:Int),(-1:Int)],[3,2,0,(-1:Int)],[(-1:Int),3,1,0]] mw F)) ?_;refine pt ?_;refine mq ?_;refine cT (s:=92) rfl (λhb=>?_) (λhb=>?_)
           .replace h:=fR (L9 hb) h;refine gm ?_;refine ga (bg (t:=Ti) [(.const (.int .i64 (0)),_)] [0] rfl rfl dR (.cons rfl .int .nil) rfl rfl) ?_;refine gb (bg (t:=Ti) [(.const (.int .i64 (0)),_),(.const (.int .i64 (1)),_)] [0,1] rfl rfl dR (.cons rfl .int (.cons rfl .int .nil)) rfl rfl) ?_;refine ga (bg (t:=Ti) [(.const (.int .i64 (1)),_)] [1] rfl rfl dR (.cons rfl .int .nil) rfl rfl) ?_;refine gc (bg (t:=Tl) [(.tmp 94,_),(.tmp 95,_),(.tmp 96,_)] [[0],[0,1],[1]] rfl rfl o8 (.cons rfl .rep (.cons rfl .rep (.cons rfl .rep .nil))) rfl rfl) ?_;obtain⟨mc,E,h⟩:=aa h;refine gb (av [.tmp 93,.tmp 97] rfl rfl Qy rfl (my k r4.1 [[0],[0,1],[1]] mc E)) ?_;refine pt ?_;refine mq ?_;refine cT (s:=100) rfl (λhb=>?_) (λhb=>?_)
            .replace h:=fR (L9 hb) h;refine gm ?_;refine gc (bg (t:=Ti) [(.const (.int .i64 (0)),_),(.const (.int .i64 (1)),_),(.const (.int .i64 (3)),_)] [0,1,3] rfl rfl dR (.cons rfl .int (.cons rfl .int (.cons rfl .int .nil))) rfl rfl) ?_;obtain⟨gw,D,h⟩:=aa h;refine gb (av [.tmp 101,.tmp 102] rfl rfl Oq rfl (kg k r9.1 [0,1,3] gw D)) ?_;refine pt ?_;refine mq ?_;refine cT (s:=105) rfl (λhb=>?_) (λhb=>?_)
             .replace h:=fR (L9 hb) h;refine gm ?_;refine gb (bg (t:=Ti) [(.const (.int .i64 (1)),_),(.const (.int .i64 (2)),_)] [1,2] rfl rfl dR (.cons rfl .int (.cons rfl .int .nil)) rfl rfl) ?_;obtain⟨j,y,h⟩:=aa h;refine gb (av [.tmp 106,.tmp 107] rfl rfl Oq rfl (kg k l.1 [1,2] j y)) ?_;refine pt ?_;refine aq (nl ?_);exact jz ((),j) h []
             .replace h:=dr (Me hb) h;iterate 3 refine gn ?_
              refine pf ?_;refine aq (nl ?_);exact jz ((),false) h []
            .replace h:=dr (Me hb) h;iterate 3 refine gn ?_
             refine pf ?_;refine mq ?_;iterate 3 refine gn ?_
             refine pf ?_;refine aq (nl ?_);exact jz ((),false) h []
           .replace h:=dr (Me hb) h;iterate 6 refine gn ?_
            refine pf ?_;refine mq ?_;iterate 3 refine gn ?_
            refine pf ?_;refine mq ?_;iterate 3 refine gn ?_
            refine pf ?_;refine aq (nl ?_);exact jz ((),false) h []
          .replace h:=dr (wv hb) h;iterate 8 refine gn ?_
           refine pf ?_;refine mq ?_;iterate 6 refine gn ?_
           refine pf ?_;refine mq ?_;iterate 3 refine gn ?_
           refine pf ?_;refine mq ?_;iterate 3 refine gn ?_
           refine pf ?_;refine aq (nl ?_);exact jz ((),false) h []
         .replace h:=dr (wv hb) h;iterate 2 refine gn ?_
          refine pf ?_;refine mq ?_;iterate 8 refine gn ?_
          refine pf ?_;refine mq ?_;iterate 6 refine gn ?_
          refine pf ?_;refine mq ?_;iterate 3 refine gn ?_
          refine pf ?_;refine mq ?_;iterate 3 refine gn ?_
          refine pf ?_;refine aq (nl ?_);exact jz ((),false) h []
        .replace h:=dr (wv hb) h;iterate 2 refine gn ?_
         refine pf ?_;refine mq ?_;iterate 2 refine gn ?_
         refine pf ?_;refine mq ?_;iterate 8 refine gn ?_
         refine pf ?_;refine mq ?_;iterate 6 refine gn ?_
         refine pf ?_;refine mq ?_;iterate 3 refine gn ?_
         refine pf ?_;refine mq ?_;iterate 3 refine gn ?_
         refine pf ?_;refine aq (nl ?_);exact jz ((),false) h []
       .replace h:=dr (wv hb) h;iterate 3 refine gn ?_
        refine pf ?_;refine mq ?_;iterate 2 refine gn ?_
        refine pf ?_;refine mq ?_;iterate 2 refine gn ?_
        refine pf ?_;refine mq ?_;iterate 8 refine gn ?_
        refine pf ?_;refine mq ?_;iterate 6 refine gn ?_
        refine pf ?_;refine mq ?_;iterate 3 refine gn ?_
        refine pf ?_;refine mq ?_;iterate 3 refine gn ?_
        refine pf ?_;refine aq (nl ?_);exact jz ((),false) h []
      .replace h:=dr (wv hb) h;iterate 2 refine gn ?_
       refine pf ?_;refine mq ?_;iterate 3 refine gn ?_
       refine pf ?_;refine mq ?_;iterate 2 refine gn ?_
       refine pf ?_;refine mq ?_;iterate 2 refine gn ?_
       refine pf ?_;refine mq ?_;iterate 8 refine gn ?_
       refine pf ?_;refine mq ?_;iterate 6 refine gn ?_
       refine pf ?_;refine mq ?_;iterate 3 refine gn ?_
       refine pf ?_;refine mq ?_;iterate 3 refine gn ?_
       refine pf ?_;refine aq (nl ?_);exact jz ((),false) h []
     .replace h:=dr (wv hb) h;iterate 2 refine gn ?_
      refine pf ?_;refine mq ?_;iterate 2 refine gn ?_
      refine pf ?_;refine mq ?_;iterate 3 refine gn ?_
      refine pf ?_;refine mq ?_;iterate 2 refine gn ?_
      refine pf ?_;refine mq ?_;iterate 2 refine gn ?_
      refine pf ?_;refine mq ?_;iterate 8 refine gn ?_
      refine pf ?_;refine mq ?_;iterate 6 refine gn ?_
      refine pf ?_;refine mq ?_;iterate 3 refine gn ?_
      refine pf ?_;refine mq ?_;iterate 3 refine gn ?_
      refine pf ?_;refine aq (nl ?_);exact jz ((),false) h []
    .replace h:=dr (wv hb) h;iterate 2 refine gn ?_
     refine pf ?_;refine mq ?_;iterate 2 refine gn ?_
     refine pf ?_;refine mq ?_;iterate 2 refine gn ?_
     refine pf ?_;refine mq ?_;iterate 3 refine gn ?_
     refine pf ?_;refine mq ?_;iterate 2 refine gn ?_
     refine pf ?_;refine mq ?_;iterate 2 refine gn ?_
     refine pf ?_;refine mq ?_;iterate 8 refine gn ?_
     refine pf ?_;refine mq ?_;iterate 6 refine gn ?_
     refine pf ?_;refine mq ?_;iterate 3 refine gn ?_
     refine pf ?_;refine mq ?_;iterate 3 refine gn ?_
     refine pf ?_;refine aq (nl ?_);exact jz ((),false) h []
   .replace h:=dr (wv hb) h;iterate 2 refine gn ?_
    refine pf ?_;refine mq ?_;iterate 2 refine gn ?_
    refine pf ?_;refine mq ?_;iterate 2 refine gn ?_
    refine pf ?_;refine mq ?_;iterate 2 refine gn ?_
    refine pf ?_;refine mq ?_;iterate 3 refine gn ?_
    refine pf ?_;refine mq ?_;iterate 2 refine gn ?_
    refine pf ?_;refine mq ?_;iterate 2 refine gn ?_
    refine pf ?_;refine mq ?_;iterate 8 refine gn ?_
    refine pf ?_;refine mq ?_;iterate 6 refine gn ?_
    refine pf ?_;refine mq ?_;iterate 3 refine gn ?_
    refine pf ?_;refine mq ?_;iterate 3 refine gn ?_
    refine pf ?_;refine aq (nl ?_);exact jz ((),false) h []
  .replace h:=dr (wv hb) h;iterate 2 refine gn ?_
   refine pf ?_;refine mq ?_;iterate 2 refine gn ?_
   refine pf ?_;refine mq ?_;iterate 2 refine gn ?_
   refine pf ?_;refine mq ?_;iterate 2 refine gn ?_
   refine pf ?_;refine mq ?_;iterate 2 refine gn ?_
   refine pf ?_;refine mq ?_;iterate 3 refine gn ?_
   refine pf ?_;refine mq ?_;iterate 2 refine gn ?_
   refine pf ?_;refine mq ?_;iterate 2 refine gn ?_
   refine pf ?_;refine mq ?_;iterate 8 refine gn ?_
   refine pf ?_;refine mq ?_;iterate 6 refine gn ?_
   refine pf ?_;refine mq ?_;iterate 3 refine gn ?_
   refine pf ?_;refine mq ?_;iterate 3 refine gn ?_
   refine pf ?_;refine aq (nl ?_);exact jz ((),false) h []
 .
  refine aA ?_;cases h;exact ra
def dp(k:Nat)(r2:(Option ae)×(List Int)×Int):Nat->(Int×Int)->Option Int
 |0,_=>none
 |n+1,y7=>
  if y7.2 < (r2.2.1.length:Int) then((aQ r2.2.1 y7.2).bind λx9=>
  (ck (y7.2+1)).bind λc=>
  dp k r2 n (wa .u8 y7.1 x9,c)) else(some y7.1)
def dn(k:Nat)(a1:Int)(q3:ae)(h:(List Int)):Nat->((List Int)×Int)->Option (List Int)
 |0,_=>none
 |n+1,c=>
  if c.2 < (h.length:Int) then((((aQ h c.2).bind λe=>
  (eS k 0 e).bind λs=>
  (dV k q3 s a1).bind λr=>
  if 0≤r then((cK (cf (length c.1+length [e]))).bind λ_=>
  some (c.1++[e])) else(some c.1)):Option ((List Int))).bind λl=>
  (ck (c.2+1)).bind λj=>
  dn k a1 q3 h n (l,j)) else(some c.1)
def jI(k:Nat)(a0:ae)(a1:Int):Option ((List Int)×Int):=
 (iy k a0 [a1] ([]:(List Int)) ([]:(List Int))).bind λr2=>
 fQ r2.1 (if¬(r2.2.2=0) then(some (([]:(List Int)),r2.2.2)) else(none)) (λq3=>if¬(r2.2.2=0) then(some (([]:(List Int)),r2.2.2)) else(((dp k r2 k (0,0)):Option (Int)).bind λx5=>
 (((eT k x5).bind λe=>
 dn k a1 q3 e k (([]:(List Int)),0)):Option ((List Int))).bind λc=>
 some (c,0)))
theorem ud(k:Nat)(a0:ae)(a1:Int)(r:(List Int)×Int)(h:jI k a0 a1=some r):
 bW (dP Tryz.prog) 18 [.rep ap a0,I a1] [] (λ_:Unit=>(bI [.rep Tl r.1,I r.2],[])):=by
 unfold jI at h
 replace h:=bi h
 refine bW.of 55 Tryz.func18 rfl Tryz.ntmps18 rfl λS w0=>?_
 refine sr ?_
 refine bx λb1=>?_
 refine cq ?_
 refine cq ?_
 refine nt ?_
 refine sr ?_
 refine lo im ?_
 refine mq ?_
 refine ja (bg (t:=Ti) [(.tmp 17,_)] [a1] rfl rfl dR (.cons rfl .int .nil) rfl rfl) ?_
 obtain⟨r2,Uo,h⟩:=aa h
 have y:=kx k a0 [a1] ([]:(List Int)) ([]:(List Int)) r2 Uo
 rcases hr:r2.1 with _ |q3
 .
  rw [hr] at h y;replace h:=uC h;refine aI (Δ:=[]) (F:=_) (λ_ _ _=>ag rfl _) rfl rfl (bT (N:=[(.tmp 16,.rep ap a0),(.tmp 18,.rep Tl [a1]),(.const (.slice none 0 0),.eq (.slice none 0 0)),(.const (.slice none 0 0),.eq (.slice none 0 0))]) (aS [.tmp 16,.tmp 18,.const (.slice none 0 0),.const (.slice none 0 0)] rfl rfl zt rfl y) λ_ _ _ hn=>⟨hn.1,hn.2.1,(aF (t:=Tl) (x:=([]:(List Int))) .nil rfl rfl hn.2.2.1),(aF (t:=Tl) (x:=([]:(List Int))) .nil rfl rfl hn.2.2.2.1),trivial⟩) ⟨rfl,rfl,rfl,rfl,trivial⟩ λ_=>?_;refine mq ?_;refine xr ?_;refine xr ?_;refine xr ?_;refine aq ?_;refine aq ?_;refine aq (nt (ak (sr ?_)));refine mq ?_;refine jb (eQ rfl) ?_;refine nt (cn h (λh=>?_) (λh=>?_))
  .refine sr (mq ?_);refine cq ?_;refine aq (nt (rx ?_));refine bU (eA (t:=Tl) (x:=([]:(List Int))) 4 rfl .nil rfl rfl) ?_;cases h;exact rb
  .cases h
 .
  rw [hr] at h y;replace h:=uB h;refine aI (Δ:=[]) (F:=_) (λ_ _ _=>ag rfl _) rfl rfl (bT (N:=[(.tmp 16,.rep ap a0),(.tmp 18,.rep Tl [a1]),(.const (.slice none 0 0),.eq (.slice none 0 0)),(.const (.slice none 0 0),.eq (.slice none 0 0))]) (aS [.tmp 16,.tmp 18,.const (.slice none 0 0),.const (.slice none 0 0)] rfl rfl zt rfl y) λ_ _ _ hn=>⟨hn.1,hn.2.1,(aF (t:=Tl) (x:=([]:(List Int))) .nil rfl rfl hn.2.2.1),(aF (t:=Tl) (x:=([]:(List Int))) .nil rfl rfl hn.2.2.2.1),trivial⟩) ⟨rfl,rfl,rfl,rfl,trivial⟩ λz4=>?_;refine mq ?_;refine xr ?_;refine xr ?_;refine xr ?_;refine aq ?_;refine aq ?_;refine aq (nt (ak (sr ?_)));refine mq ?_;refine jb (eQ rfl) ?_;refine nt (cn h (λh=>?_) (λh=>?_))
  .refine sr (mq ?_);refine cq ?_;refine aq (nt (rx ?_));refine bU (eA (t:=Tl) (x:=([]:(List Int))) 4 rfl .nil rfl rfl) ?_;cases h;exact rb
  .refine sk (sr (cq (nt ?_)));refine aG (Z:=Unit) (α:=Int) (λz6 x5=>[(1,I a1),(6,.eq (.pointer (some ⟨z4.1,0,none⟩))),(9,.eq (.int .u8 x5))]) (λz6 x5=>[.obj z4.1 129 (aN q3 z4.2),.inv z4.2 (bQ k q3)]) h (λK h=>?_) (λz6 x5 h=>?_)
   .refine sr (mq ?_);refine ol yg ?_;refine eG rfl ?_;refine nt (aj (aE (λz8 y7=>[(1,I a1),(6,.eq (.pointer (some ⟨z4.1,0,none⟩))),(9,.eq (.int .u8 y7.1)),(26,.rep (.slice (.int .u8)) r2.2.1),(27,I (r2.2.1.length:Int)),(28,I y7.2)]) (λz8 y7=>[.obj z4.1 129 (aN q3 z4.2),.inv z4.2 (bQ k q3)]) (dp k r2) k () (0,0) (λ_=>rfl) h (SE.fin [0,1] ⟨rfl,rfl,rfl,rfl,rfl,rfl,trivial⟩ rfl) (λn z8 y7 h=>?_)));unfold dp at h;refine sr (jb (bH rfl) ?_);refine nt (ak (ci h (λh=>?_) (λh=>?_)))
    .refine sk (ak (aj (sr ?_)));obtain⟨x9,Un,h⟩:=aa h;refine jb (aY (t:=(.int .u8)) rfl yg nG Un) ?_;refine ja (au (t:=(.int .u8)) rfl nG rfl) ?_;refine aq (nt (ab ?_));iterate 2 refine mq ?_
     refine jb (PS rfl) ?_;refine aq (aC (aR (tn (ab ?_))));obtain⟨mw,Q,h⟩:=aa h;refine jb (bu rfl Q) ?_;refine mq (nl ?_);exact jz ((),(wa .u8 y7.1 x9,mw)) h [0,1]
    .refine xa ?_;exact jz ((),y7.1) h [0,1]
   .refine sr (cq (nt ?_));refine aG (Z:=Value) (α:=(List Int)) (λs E=>[(12,.eq s)]) (λs E=>[.sl s 3 Ti E,.inv z4.2 (bQ k q3)]) h (λK h=>?_) (λs E h=>?_)
    .refine sr (mq ?_);obtain⟨j,gw,h⟩:=aa h;refine ja (av [.tmp 36] rfl rfl KZ rfl (ie k x5 j gw)) ?_;refine ol iv ?_;refine eG rfl ?_;refine nt (aj (jd (SE.nil 3 Ti) ?_));refine aE (λe c=>[(1,I a1),(6,.eq (.pointer (some ⟨z4.1,0,none⟩))),(12,.eq e),(37,.rep Tl j),(38,I (j.length:Int)),(39,I c.2)]) (λe c=>[.obj z4.1 129 (aN q3 z4.2),.sl e 3 Ti c.1,.inv z4.2 (bQ k q3)]) (dn k a1 q3 j) k (.slice none 0 0) (([]:(List Int)),0) (λ_=>rfl) h (SE.fin [1,0,2] ⟨rfl,rfl,rfl,rfl,rfl,rfl,trivial⟩ rfl) (λn e c h=>?_);unfold dn at h;refine sr (jb (bH rfl) ?_);refine nt (ak (ci h (λh=>?_) (λh=>?_)))
     .refine sk (aG (Z:=Value) (α:=(List Int)) (λl u=>[(1,I a1),(6,.eq (.pointer (some ⟨z4.1,0,none⟩))),(12,.eq l),(37,.rep Tl j),(38,I (j.length:Int)),(39,I c.2)]) (λl u=>[.obj z4.1 129 (aN q3 z4.2),.sl l 3 Ti u,.inv z4.2 (bQ k q3)]) h (λK h=>?_) (λl u h=>?_))
      .refine aj (sr ?_);obtain⟨D,O,h⟩:=aa h;refine jb (aY (t:=Ti) rfl iv cL O) ?_;refine ja (au (t:=Ti) rfl cL rfl) ?_;refine aq (nt (sr ?_));iterate 2 refine mq ?_
       obtain⟨J,Y,h⟩:=aa h;refine jb (av [.const (.int .u8 (0)),.tmp 44] rfl rfl KY rfl (ic k 0 D J Y)) ?_;refine mq ?_;obtain⟨zz,X,h⟩:=aa h;refine fr 2 ?_;refine fr 1 ?_;refine aI (Δ:=[_,_]) (F:=_) (λ_ _ _=>ag rfl _) rfl rfl (aS [.tmp 43,.tmp 45,.tmp 46] rfl rfl On rfl (ip k q3 z4.1 z4.2 J a1 zz X)) ⟨rfl,rfl,rfl,trivial⟩ λ_=>?_;refine jb (i7 rfl) ?_;refine nt (ci h (λh=>?_) (λh=>?_))
       .refine ab ?_;iterate 2 refine mq ?_
        refine ja (bg (t:=Ti) [(.tmp 50,_)] [D] rfl rfl dR (.cons rfl .int .nil) rfl rfl) ?_;obtain⟨Up,U,h⟩:=aa h;refine fr 2 ?_;refine eK rfl rfl rfl (cN rfl rfl dR (am U)) ⟨rfl,rfl,trivial⟩ λqt=>?_;refine aq (aC (bn ?_));exact jz (qt,c.1++[D]) h [1,0,2]
       .refine bf (bn ?_);exact jz (e,c.1) h [0,2,1]
      .refine ab ?_;obtain⟨mc,M,h⟩:=aa h;refine jb (bu rfl M) ?_;refine mq (nl ?_);exact jz (l,(u,mc)) h [0,1,2]
     .refine xa ?_;exact jz (e,c.1) h [1,2]
    .refine sr (mq ?_);refine aq ?_;refine cq (nt (aA ?_));refine bU (jp [4,12,54] ⟨rfl,rfl,rfl,trivial⟩) ?_;cases h;exact rb
def cH(k:Nat)(h:Int)(e:(List (List Int))×Int):Nat->(Bool×Int)->Option Bool
 |0,_=>none
 |n+1,c=>
  if c.2 < (e.1.length:Int) then(((if c.1=true then(some true) else((aQ e.1 c.2).bind λr=>
  (aQ r h).bind λl=>
  some (decide (0≤l)))):Option (Bool)).bind λs=>
  (ck (c.2+1)).bind λj=>
  cH k h e n (s,j)) else(some c.1)
def cG(k:Nat)(r5:(List (List Int))×Int)(e:(List Int)×Int)(h:(List Bool)×Int):Nat->((List Bool)×Bool×Int)->Option ((List Bool)×Bool)
 |0,_=>none
 |n+1,c=>
  if c.2.2 < (e.1.length:Int) then((((aQ r5.1 h.2).bind λs=>
  (aQ e.1 c.2.2).bind λr=>
  (um k s r).bind λu=>
  if 0≤u then((aQ c.1 c.2.2).bind λx=>
  some (List.set c.1 (Int.toNat c.2.2) true,true)) else(some (c.1,c.2.1))):Option ((List Bool)×Bool)).bind λj=>
  (ck (c.2.2+1)).bind λl=>
  cG k r5 e h n (j.1,j.2,l)) else(some (c.1,c.2.1))
def cI(k:Nat)(r3:ae×bO)(r5:(List (List Int))×Int)(j:Int)(r:(List Int)×Int):Nat->((List Bool)×Int)->Option (Except Bool (List Bool))
 |0,_=>none
 |n+1,c=>
  if c.2 < (r5.1.length:Int) then(bE (α:=(List Bool)) ((aQ r5.1 c.2).bind λy=>
  (iq k r3.1 y).bind λh=>
  ((if¬(h.2=0) then(some true) else((mt k r3.1 h.1).bind λE=>
  some (!E))):Option (Bool)).bind λx=>
  if x=true then(some (.error false)) else(((cH k j h k (false,0)):Option (Bool)).bind λu=>
  ((cG k r5 r c k (c.1,false,0)):Option ((List Bool)×Bool)).bind λl=>
  if¬(u=l.2) then(some (.error false)) else(some (.ok l.1)))) (λe=>some (.error e)) λD=>
  (ck (c.2+1)).bind λs=>
  cI k r3 r5 j r n (D,s)) else(some (.ok c.1))
def cX(k:Nat)(e:(List Bool)):Nat->Int->Option (Except Bool Unit)
 |0,_=>none
 |n+1,c=>
  if c < (e.length:Int) then((aQ e c).bind λj=>
  if¬(j=true) then(some (.error false)) else((ck (c+1)).bind λh=>
  cX k e n h)) else(some (.ok ()))
def cY(k:Nat)(r3:ae×bO)(r5:(List (List Int))×Int):Nat->Int->Option (Except Bool Unit)
 |0,_=>none
 |n+1,h=>
  if h < r3.1.1 then(bE (α:=Unit) ((jI k r3.1 h).bind λc=>
  if(r5.1.length:Int)=0 then(if¬(c.2=9) then(some (.error false)) else(some (.ok ()))) else(((if¬(c.2=0) then(some true) else(some (decide (r3.1.1 < (c.1.length:Int))))):Option (Bool)).bind λr=>
  if r=true then(some (.error false)) else((cK (0≤(c.1.length:Int)/\cf (Int.toNat (c.1.length:Int)))).bind λ_=>
  bE (α:=(List Bool)) (cI k r3 r5 h c k (List.replicate (Int.toNat (c.1.length:Int)) false,0)) (λe=>some (.error e)) λl=>
  cX k l k 0))) (λe=>some (.error e)) λ_=>
  (ck (h+1)).bind λj=>
  cY k r3 r5 n j) else(some (.ok ()))
def iQ(k:Nat)(a0:(List Int)):Option Bool:=
 (lP k a0).bind λr1=>
 (f9 k (r1.1,r1.2.1,r1.2.2) 4 4).bind λr3=>
 (ir k r3.1).bind λr5=>
 ((if¬(r5.2=0) then(some true) else(some (decide (32 < (r5.1.length:Int))))):Option (Bool)).bind λx6=>
 if x6=true then(some false) else(bE (α:=Unit) (cY k r3 r5 k 0) (some) λ_=>
 (qL k).bind λc=>
 some c)
theorem qM(k:Nat)(a0:(List Int))(r:Bool)(h:iQ k a0=some r):
 bW (dP Tryz.prog) 4 [.rep Tl a0] [] (λ_:Unit=>(bI [.eq (.bool r)],[])):=by
 unfold iQ at h
 replace h:=bi h
 refine bW.of 136 Tryz.func4 rfl Tryz.ntmps4 rfl λS w0=>?_
 refine sr ?_
 refine cq ?_
 refine nt ?_
 refine sr ?_
 refine mq ?_
 obtain⟨r1,U8,h⟩:=aa h
 have Ve:=uk k a0 r1 U8
 refine aX rfl rfl rfl (av [.tmp 18] rfl rfl Tn rfl Ve) ⟨rfl,trivial⟩ λb2=>?_
 obtain⟨r3,U7,h⟩:=aa h
 have Vb:=rY k (r1.1,r1.2.1,r1.2.2) b2 4 4 r3 U7
 refine kc (av [.tmp 19,.const (.int .i64 (4)),.const (.int .i64 (4))] rfl rfl To rfl Vb) ?_
 refine aX rfl rfl rfl (bo rfl yh EJ) trivial λb4=>?_
 refine aP rfl rfl (aM rfl im rfl rfl rfl) ⟨rfl,rfl,trivial⟩ ?_
 refine nt ?_
 refine sr ?_
 refine lo im ?_
 obtain⟨r5,U6,h⟩:=aa h
 have Va:=pq k r3.1 r5 U6
 refine ja (aS [.tmp 22] rfl rfl QI rfl Va) ?_
 refine mq ?_
 refine xr ?_
 refine xr ?_
 refine aq ?_
 refine aq ?_
 refine nt ?_
 refine ak ?_
 refine aG (Z:=Unit) (α:=Bool) (λz7 x6=>[(3,Pt b4),(4,.rep (.slice Tl) r5.1),(32,.eq (.bool x6))]) (λz7 x6=>[.obj b4 26 (.rep ap r3.1)]) h (λK h=>?_) (λz7 x6 h=>?_)
 .
  refine ab (mq ?_);refine jb (eQ rfl) ?_;refine mq ?_;refine cT (s:=28) rfl (λhb=>?_) (λhb=>?_)
  .replace h:=fR (Q8 hb) h;iterate 3 refine gn ?_
   refine pt (nl ?_);exact jz ((),true) h [0]
  .replace h:=dr (J3 hb) h;refine gm ?_;refine ga (qA rfl rfl qX) ?_;refine gb (ml rfl) ?_;refine pf (nl ?_);exact jz ((),decide (32 < (r5.1.length:Int))) h [0]
 .
  refine cv h (λh=>?_) (λh=>?_)
  .refine sr (cq (nt (rx ?_)));cases h;exact ra
  .refine sk (du (Z:=Unit) (α:=Unit) (λz9 x8=>[]) (λz9 x8=>[]) (λe=>e=r) h (λe h=>Option.some.inj h) (λK hR h=>?_) (λz9 x8 h=>?_))
   .refine sr (cq (nt (aj ?_)));refine aE (λUA l=>[(3,Pt b4),(4,.rep (.slice Tl) r5.1),(6,I l)]) (λUA l=>[.obj b4 26 (.rep ap r3.1)]) (cY k r3 r5) k () 0 (λ_=>rfl) h (SE.fin [0] ⟨rfl,rfl,rfl,trivial⟩ rfl) (λn UA l h=>?_);unfold cY at h;refine ak (sr (mq ?_));refine fl gA ?_;refine lo cL ?_;refine jb (bH rfl) ?_;refine nt (ci h (λh=>?_) (λh=>?_))
    .refine sk (du (Z:=Unit) (α:=Unit) (λUz UB=>[(3,Pt b4),(4,.rep (.slice Tl) r5.1),(6,I l)]) (λUz UB=>[.obj b4 26 (.rep ap r3.1)]) (λe=>e=r) h (λe h=>hR e h) (λK hR h=>?_) (λUz UB h=>?_))
     .refine aj (sr (lo im ?_));refine mq ?_;obtain⟨u,UR,h⟩:=aa h;refine jb (aS [.tmp 40,.tmp 41] rfl rfl Td rfl (ud k r3.1 l u UR)) ?_;refine mq ?_;refine xr ?_;refine xr ?_;refine aq ?_;refine aq (nt (ak (sr ?_)));refine mq ?_;refine ol qX ?_;refine jb (i8 rfl) ?_;refine nt (ci h (λh=>?_) (λh=>?_))
      .refine ak (sr (mq ?_));refine jb (eQ rfl) ?_;refine nt (cn h (λh=>?_) (λh=>?_))
       .refine sr (cq (nt (rx (aW (br (ba (aW ?_)))))));obtain rfl:=hR _ h;exact ra
       .refine sk (fV (bR (c8 (an ?_))));exact jz ((),()) h [0]
      .refine sk (ak (aG (Z:=Unit) (α:=Bool) (λUy mw=>[(3,Pt b4),(4,.rep (.slice Tl) r5.1),(6,I l),(7,.rep Tl u.1),(58,.eq (.bool mw))]) (λUy mw=>[.obj b4 26 (.rep ap r3.1)]) h (λK h=>?_) (λUy mw h=>?_)))
       .refine ab (mq ?_);refine jb (eQ rfl) ?_;refine mq ?_;refine cT (s:=52) rfl (λhb=>?_) (λhb=>?_)
        .replace h:=fR (Q8 hb) h;iterate 5 refine gn ?_
         refine pt (nl ?_);exact jz ((),true) h [0]
        .replace h:=dr (J3 hb) h;refine gm ?_;refine ga (qA rfl rfl iv) ?_;refine ga (aH rfl gA) ?_;refine nh rfl rfl rfl rfl rfl rfl (ay rfl cL pe rfl) ⟨rfl,trivial⟩ ?_;refine gb (ml rfl) ?_;refine pf (nl ?_);exact jz ((),decide (r3.1.1 < (u.1.length:Int))) h [0]
       .refine cv h (λh=>?_) (λh=>?_)
        .refine sr (cq (nt (rx (br (ba (aW ?_))))));obtain rfl:=hR _ h;exact ra
        .refine sk (sr (mq ?_));refine ol iv ?_;obtain⟨Vi,gw,h⟩:=aa h;refine aX rfl rfl rfl (GL (t:=.bool) (d:=false) rfl RD Ub (am gw).1 (am gw).2) ⟨rfl,rfl,trivial⟩ λc=>?_;refine aq (nt ?_);refine du (Z:=Unit) (α:=(List Bool)) (λUx M=>[(3,Pt b4),(4,.rep (.slice Tl) r5.1),(6,I l),(9,.eq c)]) (λUx M=>[.obj b4 26 (.rep ap r3.1),.sl c 4 .bool M]) (λe=>e=r) h (λe h=>hR e h) (λK hR h=>?_) (λUx M h=>?_)
         .refine sr (cq (nt (aj ?_)));refine aE (λUw j=>[(3,Pt b4),(4,.rep (.slice Tl) r5.1),(6,I l),(7,.rep Tl u.1),(9,.eq c),(10,I j.2)]) (λUw j=>[.obj b4 26 (.rep ap r3.1),.sl c 4 .bool j.1]) (cI k r3 r5 l u) k () (List.replicate (Int.toNat (u.1.length:Int)) false,0) (λ_=>rfl) h (SE.fin [1,0] ⟨rfl,rfl,rfl,rfl,rfl,rfl,trivial⟩ rfl) (λn Uw j h=>?_);unfold cI at h;refine ak (sr ?_);iterate 2 refine mq ?_
          refine ol qX ?_;refine jb (bH rfl) ?_;refine nt (ci h (λh=>?_) (λh=>?_))
          .refine sk (du (Z:=Unit) (α:=(List Bool)) (λUu U=>[(3,Pt b4),(4,.rep (.slice Tl) r5.1),(6,I l),(7,.rep Tl u.1),(9,.eq c),(10,I j.2)]) (λUu U=>[.obj b4 26 (.rep ap r3.1),.sl c 4 .bool U]) (λe=>e=r) h (λe h=>hR e h) (λK hR h=>?_) (λUu U h=>?_))
           .refine aj (ak (cP ?_));refine ea 0 (ay rfl im (tj) rfl) ?_;refine dm ?_;refine dm ?_;obtain⟨U0,UM,h⟩:=aa h;refine db (aY (t:=Tl) rfl qX iF UM) ?_;refine da (au (t:=Tl) rfl iF rfl) ?_;obtain⟨F,UQ,h⟩:=aa h;refine db (aS [.tmp 69,.tmp 73] rfl rfl QG rfl (po k r3.1 U0 F UQ)) ?_;refine dm ?_;refine da (jg rfl rfl) ?_;refine da (jg rfl rfl) ?_;refine da (nR rfl) ?_;refine df ew ?_;refine aq (nt (ak ?_));refine aG (Z:=Unit) (α:=Bool) (λUt mc=>[(3,Pt b4),(4,.rep (.slice Tl) r5.1),(6,I l),(7,.rep Tl u.1),(9,.eq c),(10,I j.2),(11,.rep (.slice Tl) F.1),(84,.eq (.bool mc))]) (λUt mc=>[.obj b4 26 (.rep ap r3.1),.sl c 4 .bool j.1]) h (λK h=>?_) (λUt mc h=>?_)
            .refine ab (mq ?_);refine jb (eQ rfl) ?_;refine mq ?_;refine cT (s:=79) rfl (λhb=>?_) (λhb=>?_)
             .replace h:=fR (Q8 hb) h;iterate 4 refine gn ?_
              refine pt (nl ?_);exact jz ((),true) h [0,1]
             .replace h:=dr (J3 hb) h;refine nh rfl rfl rfl rfl rfl rfl (ay rfl im (tj) rfl) ⟨rfl,trivial⟩ ?_;refine gm ?_;obtain⟨UC,UP,h⟩:=aa h;refine gb (av [.tmp 80,.tmp 81] rfl rfl Tm rfl (xl k r3.1 F.1 UC UP)) ?_;refine ga (iK rfl) ?_;refine pf (nl ?_);exact jz ((), !UC) h [0,1]
            .refine cv h (λh=>?_) (λh=>?_)
             .refine sr (cq (nt (rx (br (ba (aW (br (ba (aW ?_)))))))));obtain rfl:=hR _ h;exact ra
             .refine sk (sr (cq ?_));refine cq (nt ?_);refine aG (Z:=Unit) (α:=Bool) (λUs E=>[(3,Pt b4),(4,.rep (.slice Tl) r5.1),(6,I l),(7,.rep Tl u.1),(9,.eq c),(10,I j.2),(13,.eq (.bool E)),(14,.eq (.bool false))]) (λUs E=>[.obj b4 26 (.rep ap r3.1),.sl c 4 .bool j.1]) h (λK h=>?_) (λUs E h=>?_)
              .refine sr (cq (nt (aj ?_)));refine aE (λUr y=>[(3,Pt b4),(4,.rep (.slice Tl) r5.1),(6,I l),(7,.rep Tl u.1),(9,.eq c),(10,I j.2),(11,.rep (.slice Tl) F.1),(13,.eq (.bool y.1)),(14,.eq (.bool false)),(15,I y.2)]) (λUr y=>[.obj b4 26 (.rep ap r3.1),.sl c 4 .bool j.1]) (cH k l F) k () (false,0) (λ_=>rfl) h (SE.fin [0,1] ⟨rfl,rfl,rfl,rfl,rfl,rfl,rfl,rfl,rfl,rfl,trivial⟩ rfl) (λn Ur y h=>?_);unfold cH at h;refine ak (sr ?_);iterate 2 refine mq ?_
               refine ol qX ?_;refine jb (bH rfl) ?_;refine nt (ci h (λh=>?_) (λh=>?_))
               .refine sk (aG (Z:=Unit) (α:=Bool) (λUp Q=>[(3,Pt b4),(4,.rep (.slice Tl) r5.1),(6,I l),(7,.rep Tl u.1),(9,.eq c),(10,I j.2),(11,.rep (.slice Tl) F.1),(13,.eq (.bool Q)),(14,.eq (.bool false)),(15,I y.2)]) (λUp Q=>[.obj b4 26 (.rep ap r3.1),.sl c 4 .bool j.1]) h (λK h=>?_) (λUp Q h=>?_))
                .refine aj (ab ?_);iterate 2 refine mq ?_
                 refine cT (s:=92) rfl (λhb=>?_) (λhb=>?_)
                 .replace h:=fR (L9 hb) h;iterate 8 refine gn ?_
                  refine pt ?_;refine aq (aC (bn ?_));exact jz ((),true) h [0,1]
                 .replace h:=dr (Me hb) h;refine gm ?_;refine gm ?_;obtain⟨Vh,UL,h⟩:=aa h;refine gb (aY (t:=Tl) rfl qX iF UL) ?_;refine ga (au (t:=Tl) rfl iF rfl) ?_;refine gm ?_;obtain⟨UZ,UK,h⟩:=aa h;refine gb (aY (t:=Ti) rfl iv cL UK) ?_;refine ga (au (t:=Ti) rfl cL rfl) ?_;refine gb (i7 rfl) ?_;refine pf ?_;refine aq (aC (bn ?_));exact jz ((),decide (0≤UZ)) h [0,1]
                .refine ab (mq ?_);obtain⟨UY,UJ,h⟩:=aa h;refine jb (bu rfl UJ) ?_;refine aq (nl ?_);exact jz ((),(Q,UY)) h [0,1]
               .refine xa ?_;exact jz ((),y.1) h [0,1]
              .refine aG (Z:=Unit) (α:=(List Bool)×Bool) (λUo J=>[(3,Pt b4),(4,.rep (.slice Tl) r5.1),(6,I l),(7,.rep Tl u.1),(9,.eq c),(10,I j.2),(13,.eq (.bool E)),(14,.eq (.bool J.2))]) (λUo J=>[.obj b4 26 (.rep ap r3.1),.sl c 4 .bool J.1]) h (λK h=>?_) (λUo J h=>?_)
               .refine sr (cq (nt (aj ?_)));refine aE (λUn x=>[(3,Pt b4),(4,.rep (.slice Tl) r5.1),(6,I l),(7,.rep Tl u.1),(9,.eq c),(10,I j.2),(13,.eq (.bool E)),(14,.eq (.bool x.2.1)),(16,I x.2.2)]) (λUn x=>[.obj b4 26 (.rep ap r3.1),.sl c 4 .bool x.1]) (cG k r5 u j) k () (j.1,false,0) (λ_=>rfl) h (SE.fin [0,1] ⟨rfl,rfl,rfl,rfl,rfl,rfl,rfl,rfl,rfl,trivial⟩ rfl) (λn Un x h=>?_);unfold cG at h;refine ak (sr ?_);iterate 2 refine mq ?_
                refine ol iv ?_;refine jb (bH rfl) ?_;refine nt (ci h (λh=>?_) (λh=>?_))
                .refine sk (aG (Z:=Unit) (α:=(List Bool)×Bool) (λzz D=>[(3,Pt b4),(4,.rep (.slice Tl) r5.1),(6,I l),(7,.rep Tl u.1),(9,.eq c),(10,I j.2),(13,.eq (.bool E)),(14,.eq (.bool D.2)),(16,I x.2.2)]) (λzz D=>[.obj b4 26 (.rep ap r3.1),.sl c 4 .bool D.1]) h (λK h=>?_) (λzz D h=>?_))
                 .refine aj (ak (cP ?_));refine dm ?_;refine dm ?_;obtain⟨UX,UI,h⟩:=aa h;refine db (aY (t:=Tl) rfl qX iF UI) ?_;refine da (au (t:=Tl) rfl iF rfl) ?_;refine dm ?_;refine dm ?_;obtain⟨UW,UH,h⟩:=aa h;refine db (aY (t:=Ti) rfl iv cL UH) ?_;refine da (au (t:=Ti) rfl cL rfl) ?_;refine df ew ?_;obtain⟨U2,UO,h⟩:=aa h;refine jb (av [.tmp 111,.tmp 115] rfl rfl Ta rfl (Ef k UX UW U2 UO)) ?_;refine jb (i7 rfl) ?_;refine nt (ci h (λh=>?_) (λh=>?_))
                  .refine ab ?_;iterate 2 refine mq ?_
                   refine cq ?_;obtain⟨Vg,Y,h⟩:=aa h;refine fr 1 ?_;refine kb (bX (t:=.bool) rfl TA PC Y) ?_;refine aP rfl rfl (fD (i:=Int.toNat x.2.2) rfl PC rfl (lR Y) rfl .bool rfl) ⟨rfl,rfl,trivial⟩ ?_;refine aC (bn ?_);exact jz ((),(List.set x.1 (Int.toNat x.2.2) true,true)) h [1,0]
                  .refine bf (bn ?_);exact jz ((),(x.1,x.2.1)) h [0,1]
                 .refine ab (mq ?_);obtain⟨UV,UG,h⟩:=aa h;refine jb (bu rfl UG) ?_;refine aq (nl ?_);exact jz ((),(D.1,D.2,UV)) h [0,1]
                .refine xa ?_;exact jz ((),(x.1,x.2.1)) h [0,1]
               .refine sr ?_;iterate 2 refine mq ?_
                refine jb (GI rfl U4) ?_;refine nt (cn h (λh=>?_) (λh=>?_))
                .refine sr (cq (nt (aA (br (ba (aW (br (ba (aW ?_)))))))));obtain rfl:=hR _ h;exact ra
                .refine bf (bn ?_);exact jz ((),J.1) h [0,1]
           .refine ab (mq ?_);obtain⟨UU,UF,h⟩:=aa h;refine jb (bu rfl UF) ?_;refine aq (nl ?_);exact jz ((),(U,UU)) h [0,1]
          .refine xa ?_;exact jz ((),j.1) h [0,1]
         .refine sr (cq (nt (aj ?_)));refine aE (λqt O=>[(3,Pt b4),(4,.rep (.slice Tl) r5.1),(6,I l),(9,.eq c),(17,I O)]) (λqt O=>[.obj b4 26 (.rep ap r3.1),.sl c 4 .bool M]) (cX k M) k () 0 (λ_=>rfl) h (SE.fin [0,1] ⟨rfl,rfl,rfl,rfl,rfl,trivial⟩ rfl) (λn qt O h=>?_);unfold cX at h;refine ak (sr ?_);iterate 2 refine mq ?_
          refine fr 1 ?_;refine ka (kH rfl rfl TA) ?_;refine jb (bH rfl) ?_;refine nt (ci h (λh=>?_) (λh=>?_))
          .refine sk (ak (aj (sr ?_)));iterate 2 refine mq ?_
           obtain⟨Vf,X,h⟩:=aa h;refine kb (bX (t:=.bool) rfl TA PC X) ?_;refine ka (f8 (i:=Int.toNat O) (off:=0) rfl PC (λ_=>rfl) rfl (dw X).2.2 rfl) ?_;refine ja (iK rfl) ?_;refine nt (cw h (λh=>?_) (λh=>?_))
           .refine sr (cq (nt (aA (br (ba (br (ba (aW ?_))))))));obtain rfl:=hR _ h;exact ra
           .refine bf (aR (tn (ab (mq ?_))));obtain⟨UT,UE,h⟩:=aa h;refine jb (bu rfl UE) ?_;refine aq (nl ?_);exact jz ((),UT) h [1,0]
          .refine fV (bR (bR (c8 (bn ?_))));exact jz ((),()) h [1]
     .refine ab (mq ?_);obtain⟨US,UD,h⟩:=aa h;refine jb (bu rfl UD) ?_;refine aq (nl ?_);exact jz ((),US) h [0]
    .refine xa ?_;exact jz ((),()) h []
   .refine sr ?_;obtain⟨U1,UN,h⟩:=aa h;refine bY rfl (aS [] rfl rfl Tf rfl (zi k U1 UN)) trivial ?_;refine aq (nt (aA ?_));cases h;exact ra
