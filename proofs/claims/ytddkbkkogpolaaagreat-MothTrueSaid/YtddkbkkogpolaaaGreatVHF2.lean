import Derived.Test.YtddkbkkogpolaaaGreatVHB11
open Nat
open List hiding mem_of_getElem?
open Array hiding mem_of_getElem? mk
set_option linter.unusedSimpArgs false
set_option linter.unusedVariables false
set_option maxRecDepth 4000
set_option maxHeartbeats 1000000
namespace Go.Proofs.YtddkbkkogpolaaaGreat
open K Go Go.Proofs
def fy(k:Nat)(r4:(List Int)×bO):Nat->((List Int)×Int×Int×Int×(List (List Int)))->Option ((List Int)×Int×Int×(List (List Int)))
 |0,_=>none
 |n+1,y7=>
  if y7.2.2.2.1 < (r4.1.length:Int) then((((ew k (y7.1,y7.2.1,y7.2.2.1) 5).bind λc=>
  if c.1=true then(some (c.2.1,c.2.2.1,c.2.2.2,y7.2.2.2.2)) else((ck ((y7.2.2.2.2.length:Int) - 1)).bind λr=>
  (cC k (c.2.1,c.2.2.1,c.2.2.2) r).bind λe=>
  (aR y7.2.2.2.2 e.1).bind λj=>
  (aR r4.1 y7.2.2.2.1).bind λh=>
  (cP (bW (length j+length [h]))).bind λ_=>
  some (e.2.1,e.2.2.1,e.2.2.2,List.set y7.2.2.2.2 (Int.toNat e.1) (j++[h])))):Option ((List Int)×Int×Int×(List (List Int)))).bind λx9=>
  (ck (y7.2.2.2.1+1)).bind λl=>
  fy k r4 n (x9.1,x9.2.1,x9.2.2.1,l,x9.2.2.2)) else(some (y7.1,y7.2.1,y7.2.2.1,y7.2.2.2.2))
def jV(k:Nat)(a0:bO)(a1:Int):Option ((List (List Int))×bO):=
 (fJ k (a0.1,a0.2.1,a0.2.2) 1 3).bind λr1=>
 (cP (0≤r1.1/\bW (Int.toNat r1.1))).bind λ_=>
 (gV k (r1.2.1,r1.2.2.1,r1.2.2.2) a1).bind λr4=>
 ((fy k r4 k (r4.2.1,r4.2.2.1,r4.2.2.2,0,List.replicate (Int.toNat r1.1) ([]:(List Int)))):Option ((List Int)×Int×Int×(List (List Int)))).bind λx5=>
 some (x5.2.2.2,(x5.1,x5.2.1,x5.2.2.1))
theorem uQ(k:Nat)(a0:bO)(c:Nat)(a1:Int)(r:(List (List Int))×bO)(h:jV k a0 a1=some r):
 dD Tryz.prog 59 [Pt c,I a1] [.obj c 71 (.agg (.pair (.rep Tl a0.1) (.pair (I a0.2.1) (.eq (.int .u64 a0.2.2)))))] (λ_:Unit=>(bM [.rep (.slice Tl) r.1],[.obj c 71 (.agg (.pair (.rep Tl r.2.1) (.pair (I r.2.2.1) (.eq (.int .u64 r.2.2.2)))))])):=by
 unfold jV at h
 replace h:=bh h
 refine dD.of 42 Tryz.func59 rfl Tryz.ntmps59 rfl λS w0=>?_
 refine sr ?_
 refine cq ?_
 refine nt ?_
 refine sr ?_
 refine mq ?_
 obtain⟨r1,V6,h⟩:=aa h
 have V8:=jh k (a0.1,a0.2.1,a0.2.2) c 1 3 r1 V6
 refine kc (ay [.tmp 9,.const (.int .i64 (1)),.const (.int .i64 (3))] rfl rfl ME rfl V8) ?_
 obtain⟨u2,U,h⟩:=aa h
 refine aW rfl rfl rfl (PC (t:=.val) (d:=.slice none 0 0) rfl pM QP (am U).1 (am U).2) ⟨rfl,rfl,trivial⟩ λv3=>?_
 refine eF (Jx (F:=[.obj c 71 (.agg (.pair (.rep Tl r1.2.1) (.pair (I r1.2.2.1) (.eq (.int .u64 r1.2.2.2)))))])) ?_
 refine aq ?_
 refine nt ?_
 refine sr ?_
 iterate 2 refine mq ?_
 obtain⟨r4,V5,h⟩:=aa h
 have V7:=rH k (r1.2.1,r1.2.2.1,r1.2.2.2) c a1 r4 V5
 refine kb (ay [.tmp 12,.tmp 13] rfl rfl UF rfl V7) ?_
 refine aq ?_
 refine nt ?_
 refine aM (Z:=(Value×(Nat->Value))) (α:=(List Int)×Int×Int×(List (List Int))) (λz6 x5=>[(5,.eq z6.1)]) (λz6 x5=>[.obj c 71 (.agg (.pair (.rep Tl x5.1) (.pair (I x5.2.1) (.eq (.int .u64 x5.2.2.1)))))]++xM 22 z6 x5.2.2.2) h (λK h=>?_) (λz6 x5 h=>?_)
 .
  refine sr (cq (nt (ai ?_)));refine aL (Z:=(Value×(Nat->Value))) (α:=(List Int)×Int×Int×Int×(List (List Int))) (λz8 y7=>[(0,Pt c),(5,.eq z8.1),(6,.rep Tl r4.1),(7,I y7.2.2.2.1)]) (λz8 y7=>[.obj c 71 (.agg (.pair (.rep Tl y7.1) (.pair (I y7.2.1) (.eq (.int .u64 y7.2.2.1)))))]++xM 22 z8 y7.2.2.2.2) (fy k r4) k (v3,λ_=>.slice none 0 0) (r4.2.1,r4.2.2.1,r4.2.2.2,0,List.replicate (Int.toNat r1.1) ([]:(List Int))) (λ_=>rfl) h (f5 [.obj c 71 (.agg (.pair (.rep Tl r4.2.1) (.pair (I r4.2.2.1) (.eq (.int .u64 r4.2.2.2)))))] (xM 22 (v3,λ_=>.slice none 0 0) (List.replicate (Int.toNat r1.1) ([]:(List Int)))) [0] ⟨rfl,rfl,rfl,rfl,trivial⟩ rfl) (λn z8 y7 h=>?_);unfold fy at h;refine aj (sr ?_);iterate 2 refine mq ?_
  refine ol ie ?_;refine jb (bN rfl) ?_;refine nt (ci h (λh=>?_) (λh=>?_))
  .refine sk (aM (Z:=(Value×(Nat->Value))) (α:=(List Int)×Int×Int×(List (List Int))) (λy x9=>[(0,Pt c),(5,.eq y.1),(6,.rep Tl r4.1),(7,I y7.2.2.2.1)]) (λy x9=>[.obj c 71 (.agg (.pair (.rep Tl x9.1) (.pair (I x9.2.1) (.eq (.int .u64 x9.2.2.1)))))]++xM 22 y x9.2.2.2) h (λK h=>?_) (λy x9 h=>?_))
   .refine ai (aj (sr (mq ?_)));obtain⟨j,gw,h⟩:=aa h;refine kb (ay [.tmp 21,.const (.int .i64 (5))] rfl rfl MG rfl (hP k (y7.1,y7.2.1,y7.2.2.1) c 5 j gw)) ?_;refine nt (cv h (λh=>?_) (λh=>?_))
    .refine d5 (bv (cu (ap ?_)));exact tg (z8,(j.2.1,j.2.2.1,j.2.2.2,y7.2.2.2.2)) h (f5 [.obj c 71 (.agg (.pair (.rep Tl j.2.1) (.pair (I j.2.2.1) (.eq (.int .u64 j.2.2.2)))))] (xM 22 z8 y7.2.2.2.2) [0] ⟨rfl,rfl,rfl,rfl,trivial⟩ rfl)
    .refine sk (sr ?_);iterate 2 refine mq ?_
     refine JI (pre:=[.obj c 71 (.agg (.pair (.rep Tl j.2.1) (.pair (I j.2.2.1) (.eq (.int .u64 j.2.2.2)))))]) rfl rfl rfl rfl rfl ta ⟨rfl,trivial⟩ ?_;obtain⟨mw,Q,h⟩:=aa h;refine jb (eM rfl Q) ?_;obtain⟨e,Y,h⟩:=aa h;refine kb (ay [.tmp 23,.tmp 26] rfl rfl wb rfl (cL k (j.2.1,j.2.2.1,j.2.2.2) c mw e Y)) ?_;refine aq (nt ?_);obtain⟨x,s,h⟩:=aa h;refine iO (FY (pre:=[.obj c 71 (.agg (.pair (.rep Tl e.2.1) (.pair (I e.2.2.1) (.eq (.int .u64 e.2.2.2)))))]) (D1 s).2) ?_;obtain⟨u,O,h⟩:=aa h;obtain⟨u16,X,h⟩:=aa h;refine JR (Δ:=[.sl (z8.2 (Int.toNat e.1)) 3 Ti x,.sl z8.1 22 .val (oe z8.2 0 y7.2.2.2.2),.obj c 71 (.agg (.pair (.rep Tl e.2.1) (.pair (I e.2.2.1) (.eq (.int .u64 e.2.2.2)))))]) (F:=(nV z8.2 0 y7.2.2.2.2).eraseIdx (Int.toNat e.1)) (Z:=Value) (λi=>[(0,Pt c),(5,.eq z8.1),(6,.rep Tl r4.1),(7,I y7.2.2.2.1)]) (λi=>[.sl z8.1 22 .val (List.set (oe z8.2 0 y7.2.2.2.2) (Int.toNat e.1) i),.sl i 3 Ti (x++[u]),.obj c 71 (.agg (.pair (.rep Tl e.2.1) (.pair (I e.2.2.1) (.eq (.int .u64 e.2.2.2)))))]) (λS w=>?_) (λl=>?_)
     .refine o5 ?_;refine bK rfl rfl rfl (aV rfl) ⟨rfl,trivial⟩ ?_;refine bK rfl rfl rfl (aV rfl) ⟨rfl,trivial⟩ ?_;refine bK rfl rfl rfl (aV rfl) ⟨rfl,trivial⟩ ?_;refine bK rfl rfl rfl (aV rfl) ⟨rfl,trivial⟩ ?_;refine gX 1 rfl rfl rfl rfl (cM (t:=.val) rfl ta gG (tV s)) ⟨rfl,rfl,trivial⟩ ?_;refine gX 1 rfl rfl rfl rfl (g7 (i:=Int.toNat e.1) (off:=0) rfl gG (λ_=>rfl) rfl (dP (tV s)).2.2 rfl) ⟨rfl,trivial⟩ ?_;refine bK rfl rfl rfl (aV rfl) ⟨rfl,trivial⟩ ?_;refine bK rfl rfl rfl (aV rfl) ⟨rfl,trivial⟩ ?_;refine bK rfl rfl rfl (aX (t:=Ti) rfl ie cx O) ⟨rfl,rfl,trivial⟩ ?_;refine bK rfl rfl rfl (au (t:=Ti) rfl cx rfl) ⟨rfl,trivial⟩ ?_;refine bK rfl rfl rfl (bj (t:=Ti) [(.tmp 37,_)] [u] rfl rfl dL (.cons rfl .int .nil) rfl rfl) ⟨rfl,trivial⟩ ?_;refine A7 0 rfl (λv=>[.sl v 3 Ti (x++[u])]) (λ_=>rfl) rfl rfl rfl (cO rfl rfl dL (am X)) ⟨rfl,rfl,trivial⟩ ?_;refine tl 12 [true,true,true,true,true,true,true,true,true,true,true,true] [40] [] [] rfl (by kernel_rfl) (by kernel_rfl) (by kernel_rfl) dQ (λvs hv hB=>?_);obtain⟨w0,Wq,rfl,V4⟩:=av hv;obtain⟨w1,Wp,rfl,V3⟩:=av V4;obtain⟨w2,Wn,rfl,V2⟩:=av V3;obtain⟨w3,Wm,rfl,V0⟩:=av V2;obtain⟨w4,Wj,rfl,VZ⟩:=av V0;obtain⟨w5,Wi,rfl,zM⟩:=av VZ;obtain⟨w6,Wh,rfl,zz⟩:=av zM;obtain⟨w7,Wg,rfl,qt⟩:=av zz;obtain⟨w8,We,rfl,pq⟩:=av qt;obtain⟨w9,Wb,rfl,J⟩:=av pq;obtain⟨Wc,Wa,rfl,E⟩:=av J;obtain⟨l,V9,rfl,D⟩:=av E;obtain rfl:=pu D;refine⟨[0,1,2],[.sl z8.1 22 .val (oe z8.2 0 y7.2.2.2.2),.obj c 71 (.agg (.pair (.rep Tl e.2.1) (.pair (I e.2.2.1) (.eq (.int .u64 e.2.2.2))))),.sl l 3 Ti (x++[u])],by kernel_rfl,by decide,?_⟩;refine vt rfl rfl rfl rfl (cM (t:=.val) rfl ta gG (tV s)) ⟨rfl,rfl,trivial⟩ (by kernel_rfl) ?_;refine rV 2 rfl ?_;refine Qv λo18=>?_;refine rV 1 rfl ?_;refine te rfl rfl (gJ (i:=Int.toNat e.1) rfl gG rfl (nB (tV s)) rfl (.val o18) o18) ⟨rfl,rfl,trivial⟩ (by kernel_rfl) ?_;refine yN ?_;refine bF (SE.fin (Γ':=[(0,Pt c),(5,.eq z8.1),(6,.rep Tl r4.1),(7,I y7.2.2.2.1)]) (Δ':=[.sl z8.1 22 .val (List.set (oe z8.2 0 y7.2.2.2.2) (Int.toNat e.1) l),.sl l 3 Ti (x++[u]),.obj c 71 (.agg (.pair (.rep Tl e.2.1) (.pair (I e.2.2.1) (.eq (.int .u64 e.2.2.2)))))]) [0,1,2] ⟨rfl,rfl,rfl,rfl,trivial⟩ rfl) ?_;exact λa w st=>⟨rfl,(l),(SE.fin (Γ':=[(0,Pt c),(5,.eq z8.1),(6,.rep Tl r4.1),(7,I y7.2.2.2.1)]) (Δ':=[.sl z8.1 22 .val (List.set (oe z8.2 0 y7.2.2.2.2) (Int.toNat e.1) l),.sl l 3 Ti (x++[u]),.obj c 71 (.agg (.pair (.rep Tl e.2.1) (.pair (I e.2.2.1) (.eq (.int .u64 e.2.2.2)))))]) [0,1,2] ⟨rfl,rfl,rfl,rfl,trivial⟩ rfl) a w st⟩
     .show JN _ _ [(0,Pt c),(5,.eq z8.1),(6,.rep Tl r4.1),(7,I y7.2.2.2.1)] ([.sl z8.1 22 .val (List.set (oe z8.2 0 y7.2.2.2.2) (Int.toNat e.1) l),.sl l 3 Ti (x++[u]),.obj c 71 (.agg (.pair (.rep Tl e.2.1) (.pair (I e.2.2.1) (.eq (.int .u64 e.2.2.2)))))]++(nV z8.2 0 y7.2.2.2.2).eraseIdx (Int.toNat e.1));refine aD 1 rfl ?_;refine bF (C7 (pre:=[.obj c 71 (.agg (.pair (.rep Tl e.2.1) (.pair (I e.2.2.1) (.eq (.int .u64 e.2.2.2)))))]) (z:=z8) (i:=Int.toNat e.1) (D1 s).2) ?_;refine bn ?_;exact tg ((z8.1,BI z8.2 (Int.toNat e.1) l),(e.2.1,e.2.2.1,e.2.2.2,List.set y7.2.2.2.2 (Int.toNat e.1) (x++[u]))) h (f5 [.obj c 71 (.agg (.pair (.rep Tl e.2.1) (.pair (I e.2.2.1) (.eq (.int .u64 e.2.2.2)))))] (xM 22 (z8.1,BI z8.2 (Int.toNat e.1) l) (List.set y7.2.2.2.2 (Int.toNat e.1) (x++[u]))) [0] ⟨rfl,rfl,rfl,rfl,trivial⟩ rfl)
   .refine ab (mq ?_);obtain⟨mc,M,h⟩:=aa h;refine jb (bp rfl M) ?_;refine aq (nl ?_);exact tg (y,(x9.1,x9.2.1,x9.2.2.1,mc,x9.2.2.2)) h (f5 [.obj c 71 (.agg (.pair (.rep Tl x9.1) (.pair (I x9.2.1) (.eq (.int .u64 x9.2.2.1)))))] (xM 22 y x9.2.2.2) [0] ⟨rfl,rfl,rfl,rfl,trivial⟩ rfl)
  .refine xa ?_;exact tg (z8,(y7.1,y7.2.1,y7.2.2.1,y7.2.2.2.2)) h (f5 [.obj c 71 (.agg (.pair (.rep Tl y7.1) (.pair (I y7.2.1) (.eq (.int .u64 y7.2.2.1)))))] (xM 22 z8 y7.2.2.2.2) [0] ⟨rfl,trivial⟩ rfl)
 .
  refine sr (mq ?_);refine aq (nt (ax ?_));refine bF (Jy (pre:=[.obj c 71 (.agg (.pair (.rep Tl x5.1) (.pair (I x5.2.1) (.eq (.int .u64 x5.2.2.1)))))])) ?_;refine bF (jo [4,5,41] ⟨rfl,rfl,rfl,trivial⟩) ?_;cases h;exact aP () [_] 1 ⟨rfl,trivial⟩ rfl
def fA(k:Nat)(r2:Int×bO):Nat->((List Int)×Int×Int×(List (List (List Int)))×Int)->Option ((List (List (List Int)))×(List Int)×Int×Int)
 |0,_=>none
 |n+1,c=>
  if 0 < c.2.2.2.2 then(((((if 0 < (c.2.2.2.1.length:Int) then((ew k (c.1,c.2.1,c.2.2.1) 3).bind λl=>
  some (l.2.1,l.2.2.1,l.2.2.2,l.1)) else(some (c.1,c.2.1,c.2.2.1,false))):Option ((List Int)×Int×Int×Bool)).bind λe=>
  if e.2.2.2=true then((ck ((c.2.2.2.1.length:Int) - 1)).bind λx=>
  (aR c.2.2.2.1 x).bind λu=>
  (io k u).bind λr=>
  (cP (bW (length c.2.2.2.1+length [r]))).bind λ_=>
  some (e.1,e.2.1,e.2.2.1,c.2.2.2.1++[r])) else((jV k (e.1,e.2.1,e.2.2.1) r2.1).bind λh=>
  (cP (bW (length c.2.2.2.1+length [h.1]))).bind λ_=>
  some (h.2.1,h.2.2.1,h.2.2.2,c.2.2.2.1++[h.1]))):Option ((List Int)×Int×Int×(List (List (List Int))))).bind λj=>
  (ck (c.2.2.2.2 - 1)).bind λs=>
  fA k r2 n (j.1,j.2.1,j.2.2.1,j.2.2.2,s)) else(some (c.2.2.2.1,c.1,c.2.1,c.2.2.1))
def jW(k:Nat)(a0:bO)(a1:Int)(a2:Int):Option (ae×bO):=
 (fJ k (a0.1,a0.2.1,a0.2.2) 1 a1).bind λr2=>
 (cC k (r2.2.1,r2.2.2.1,r2.2.2.2) 3).bind λr3=>
 (gU k (r3.2.1,r3.2.2.1,r3.2.2.2) [0,1,1,2,r3.1]).bind λr4=>
 (cC k (r4.2.1,r4.2.2.1,r4.2.2.2) 3).bind λr5=>
 (gU k (r5.2.1,r5.2.2.1,r5.2.2.2) [0,1,2,r5.1]).bind λr6=>
 (fJ k (r6.2.1,r6.2.2.1,r6.2.2.2) 1 3).bind λr7=>
 (gU k (r7.2.1,r7.2.2.1,r7.2.2.2) [1,2,r7.1]).bind λr8=>
 (((fJ k (r8.2.1,r8.2.2.1,r8.2.2.2) 1 a2).bind λe=>
 fA k r2 k (e.2.1,e.2.2.1,e.2.2.2,([]:(List (List (List Int)))),e.1)):Option ((List (List (List Int)))×(List Int)×Int×Int)).bind λc=>
 some ((r2.1,r4.1,r6.1,r8.1,c.1,[]),(c.2.1,c.2.2.1,c.2.2.2))
theorem uS(k:Nat)(a0:bO)(c:Nat)(a1:Int)(a2:Int)(r:ae×bO)(h:jW k a0 a1 a2=some r):
 dD Tryz.prog 23 [Pt c,I a1,I a2] [.obj c 71 (.agg (.pair (.rep Tl a0.1) (.pair (I a0.2.1) (.eq (.int .u64 a0.2.2)))))] (λ_:Unit=>(bM [.agg (.pair (I r.1.1) (.pair (I r.1.2.1) (.pair (I r.1.2.2.1) (.pair (I r.1.2.2.2.1) (.pair (.rep (.slice (.slice Tl)) r.1.2.2.2.2.1) (.eq (.slice none 0 0)))))))],[.obj c 71 (.agg (.pair (.rep Tl r.2.1) (.pair (I r.2.2.1) (.eq (.int .u64 r.2.2.2)))))])):=by
 unfold jW at h
 replace h:=bh h
 refine dD.of 67 Tryz.func23 rfl Tryz.ntmps23 rfl λS w0=>?_
 refine sr ?_
 refine aW rfl rfl rfl (bb rfl yV FT) trivial λb1=>?_
 refine nt ?_
 refine sr ?_
 iterate 2 refine mq ?_
 obtain⟨r2,V9,h⟩:=aa h
 have Wi:=jh k (a0.1,a0.2.1,a0.2.2) c 1 a1 r2 V9
 refine fr 1 ?_
 refine kc (ay [.tmp 10,.const (.int .i64 (1)),.tmp 11] rfl rfl ME rfl Wi) ?_
 iterate 2 refine mq ?_
 obtain⟨r3,V8,h⟩:=aa h
 have Wh:=cL k (r2.2.1,r2.2.2.1,r2.2.2.2) c 3 r3 V8
 refine kb (ay [.tmp 14,.const (.int .i64 (3))] rfl rfl wb rfl Wh) ?_
 refine cf rfl (bj (t:=Ti) [(.const (.int .i64 (0)),_),(.const (.int .i64 (1)),_),(.const (.int .i64 (1)),_),(.const (.int .i64 (2)),_),(.tmp 15,_)] [0,1,1,2,r3.1] rfl rfl dL (.cons rfl .int (.cons rfl .int (.cons rfl .int (.cons rfl .int (.cons rfl .int .nil))))) rfl rfl) ⟨rfl,rfl,rfl,rfl,rfl,trivial⟩ ?_
 obtain⟨r4,V7,h⟩:=aa h
 have Wg:=lF k (r3.2.1,r3.2.2.1,r3.2.2.2) c [0,1,1,2,r3.1] r4 V7
 refine kb (ay [.tmp 13,.tmp 16] rfl rfl P2 rfl Wg) ?_
 iterate 2 refine mq ?_
 obtain⟨r5,V6,h⟩:=aa h
 have We:=cL k (r4.2.1,r4.2.2.1,r4.2.2.2) c 3 r5 V6
 refine kb (ay [.tmp 19,.const (.int .i64 (3))] rfl rfl wb rfl We) ?_
 refine cf rfl (bj (t:=Ti) [(.const (.int .i64 (0)),_),(.const (.int .i64 (1)),_),(.const (.int .i64 (2)),_),(.tmp 20,_)] [0,1,2,r5.1] rfl rfl dL (.cons rfl .int (.cons rfl .int (.cons rfl .int (.cons rfl .int .nil)))) rfl rfl) ⟨rfl,rfl,rfl,rfl,trivial⟩ ?_
 obtain⟨r6,V5,h⟩:=aa h
 have Wc:=lF k (r5.2.1,r5.2.2.1,r5.2.2.2) c [0,1,2,r5.1] r6 V5
 refine kb (ay [.tmp 18,.tmp 21] rfl rfl P2 rfl Wc) ?_
 iterate 2 refine mq ?_
 obtain⟨r7,V4,h⟩:=aa h
 have Wb:=jh k (r6.2.1,r6.2.2.1,r6.2.2.2) c 1 3 r7 V4
 refine kc (ay [.tmp 24,.const (.int .i64 (1)),.const (.int .i64 (3))] rfl rfl ME rfl Wb) ?_
 refine jc (bj (t:=Ti) [(.const (.int .i64 (1)),_),(.const (.int .i64 (2)),_),(.tmp 25,_)] [1,2,r7.1] rfl rfl dL (.cons rfl .int (.cons rfl .int (.cons rfl .int .nil))) rfl rfl) ?_
 obtain⟨r8,V3,h⟩:=aa h
 have Wa:=lF k (r7.2.1,r7.2.2.1,r7.2.2.2) c [1,2,r7.1] r8 V3
 refine kb (ay [.tmp 23,.tmp 26] rfl rfl P2 rfl Wa) ?_
 refine cf rfl (eh [(0,.tmp 12,_),(1,.tmp 17,_),(2,.tmp 22,_),(3,.tmp 27,_)] rfl Re yV Ox (jO ⟨rfl,rfl,rfl,rfl,trivial⟩) rfl) ⟨rfl,rfl,rfl,rfl,trivial⟩ ?_
 refine aW rfl rfl rfl (bb rfl yV FT) trivial λb9=>?_
 refine aJ rfl rfl (aE rfl gC trivial rfl rfl) ⟨rfl,rfl,trivial⟩ ?_
 refine nt ?_
 refine aM (Z:=Value) (α:=(List (List (List Int)))×(List Int)×Int×Int) (λJ y=>[(6,Pt b1),(7,Pt b9)]) (λJ y=>[.obj b1 26 (.agg (.pair (I 0) (.pair (I 0) (.pair (I 0) (.pair (I 0) (.pair (.eq (.slice none 0 0)) (.eq (.slice none 0 0)))))))),.obj b9 26 (.agg (.pair (I r2.1) (.pair (I r4.1) (.pair (I r6.1) (.pair (I r8.1) (.pair (.eq J) (.eq (.slice none 0 0)))))))),.sl J 30 (.slice Tl) y.1,.obj c 71 (.agg (.pair (.rep Tl y.2.1) (.pair (I y.2.2.1) (.eq (.int .u64 y.2.2.2)))))]) h (λK h=>?_) (λJ y h=>?_)
 .
  refine sr ?_;iterate 2 refine mq ?_
  obtain⟨F,qt,h⟩:=aa h;refine fr 1 ?_;refine kc (ay [.tmp 29,.const (.int .i64 (1)),.tmp 30] rfl rfl ME rfl (jh k (r8.2.1,r8.2.2.1,r8.2.2.2) c 1 a2 F qt)) ?_;refine aq (nt (ai ?_));refine iO (SE.nil 30 (.slice Tl)) ?_;refine aL (λu e=>[(0,Pt c),(6,Pt b1),(7,Pt b9),(8,I e.2.2.2.2)]) (λu e=>[.obj c 71 (.agg (.pair (.rep Tl e.1) (.pair (I e.2.1) (.eq (.int .u64 e.2.2.1))))),.obj b1 26 (.agg (.pair (I 0) (.pair (I 0) (.pair (I 0) (.pair (I 0) (.pair (.eq (.slice none 0 0)) (.eq (.slice none 0 0)))))))),.obj b9 26 (.agg (.pair (I r2.1) (.pair (I r4.1) (.pair (I r6.1) (.pair (I r8.1) (.pair (.eq u) (.eq (.slice none 0 0)))))))),.sl u 30 (.slice Tl) e.2.2.2.1]) (fA k r2) k (.slice none 0 0) (F.2.1,F.2.2.1,F.2.2.2,([]:(List (List (List Int)))),F.1) (λ_=>rfl) h (SE.fin [1,3,2,0] ⟨rfl,rfl,rfl,rfl,trivial⟩ rfl) (λn u e h=>?_);unfold fA at h;refine aj (sr (mq ?_));refine jb (kB rfl) ?_;refine nt (ci h (λh=>?_) (λh=>?_))
  .refine sk (aM (Z:=Value) (α:=(List Int)×Int×Int×(List (List (List Int)))) (λD l=>[(0,Pt c),(6,Pt b1),(7,Pt b9),(8,I e.2.2.2.2)]) (λD l=>[.obj c 71 (.agg (.pair (.rep Tl l.1) (.pair (I l.2.1) (.eq (.int .u64 l.2.2.1))))),.obj b1 26 (.agg (.pair (I 0) (.pair (I 0) (.pair (I 0) (.pair (I 0) (.pair (.eq (.slice none 0 0)) (.eq (.slice none 0 0)))))))),.obj b9 26 (.agg (.pair (I r2.1) (.pair (I r4.1) (.pair (I r6.1) (.pair (I r8.1) (.pair (.eq D) (.eq (.slice none 0 0)))))))),.sl D 30 (.slice Tl) l.2.2.2]) h (λK h=>?_) (λD l h=>?_))
   .refine ai (aj (sr (fl eO ?_)));refine fr 2 ?_;refine lo lR ?_;refine fr 3 ?_;refine ka (mP rfl rfl Bm) ?_;refine aq (nt ?_);refine aM (Z:=Unit) (α:=(List Int)×Int×Int×Bool) (λQ j=>[(0,Pt c),(6,Pt b1),(7,Pt b9),(8,I e.2.2.2.2),(9,I (e.2.2.2.1.length:Int)),(44,.eq (.bool j.2.2.2))]) (λQ j=>[.obj c 71 (.agg (.pair (.rep Tl j.1) (.pair (I j.2.1) (.eq (.int .u64 j.2.2.1))))),.obj b1 26 (.agg (.pair (I 0) (.pair (I 0) (.pair (I 0) (.pair (I 0) (.pair (.eq (.slice none 0 0)) (.eq (.slice none 0 0)))))))),.obj b9 26 (.agg (.pair (I r2.1) (.pair (I r4.1) (.pair (I r6.1) (.pair (I r8.1) (.pair (.eq u) (.eq (.slice none 0 0)))))))),.sl u 30 (.slice Tl) e.2.2.2.1]) h (λK h=>?_) (λQ j h=>?_)
    .refine ab (mq ?_);refine jb (kB rfl) ?_;refine mq ?_;refine cQ (s:=41) rfl (λhb=>?_) (λhb=>?_)
     .replace h:=eL (va hb) h;refine gm ?_;obtain⟨E,pq,h⟩:=aa h;refine fr 2 ?_;refine nJ rfl rfl rfl rfl rfl rfl (ay [.tmp 42,.const (.int .i64 (3))] rfl rfl MG rfl (hP k (e.1,e.2.1,e.2.2.1) c 3 E pq)) ⟨rfl,rfl,trivial⟩ ?_;refine pt (nl ?_);exact jz ((),(E.2.1,E.2.2.1,E.2.2.2,E.1)) h [0,3,2,1]
     .replace h:=cY (vb hb) h;iterate 2 refine gn ?_
      refine pf (nl ?_);exact jz ((),(e.1,e.2.1,e.2.2.1,false)) h [2,3,1,0]
    .refine cv h (λh=>?_) (λh=>?_)
     .refine aj (cV ?_);refine da (aH rfl eO) ?_;refine ea 2 (aC rfl lR nW rfl) ?_;refine da (aH rfl eO) ?_;refine ea 2 (aC rfl lR nW rfl) ?_;refine dm ?_;obtain⟨VZ,X,h⟩:=aa h;refine db (eM rfl X) ?_;obtain⟨zM,M,h⟩:=aa h;refine eb 3 (cM (t:=(.slice Tl)) rfl Bm zr M) ?_;refine ea 3 (g7 (i:=Int.toNat VZ) (off:=0) rfl zr (λ_=>rfl) rfl (dP M).2.2 rfl) ?_;obtain⟨O,mw,h⟩:=aa h;refine da (yK (ay [.tmp 52] rfl rfl UU rfl (sP k zM O mw))) ?_;refine da (bj (t:=(.slice Tl)) [(.tmp 53,_)] [O] rfl rfl BG (.cons rfl .rep .nil) rfl rfl) ?_;refine df dQ ?_;obtain⟨Wm,gw,h⟩:=aa h;refine fr 3 ?_;refine eG rfl rfl rfl (cO rfl rfl BG (am gw)) ⟨rfl,rfl,trivial⟩ λV2=>?_;refine fl eO ?_;refine tf λo25=>?_;refine fr 3 ?_;refine aJ rfl rfl (aE rfl lR o25 rfl rfl) ⟨rfl,rfl,trivial⟩ ?_;refine nt (d5 (bv (cu (ap ?_))));exact jz (V2,(j.1,j.2.1,j.2.2.1,e.2.2.2.1++[O])) h [2,3,0,1]
     .refine sk (cV ?_);refine da (aH rfl eO) ?_;refine ea 2 (aC rfl lR nW rfl) ?_;refine dm ?_;refine da (aH rfl gr) ?_;refine ea 2 (aC rfl cx nW rfl) ?_;obtain⟨x,mc,h⟩:=aa h;refine NQ 0 rfl rfl rfl rfl (ay [.tmp 59,.tmp 61] rfl rfl US rfl (uQ k (j.1,j.2.1,j.2.2.1) c r2.1 x mc)) ⟨rfl,rfl,trivial⟩ ?_;refine da (bj (t:=(.slice Tl)) [(.tmp 62,_)] [x.1] rfl rfl BG (.cons rfl .rep .nil) rfl rfl) ?_;refine NS (Δ':=[.obj b1 26 (.agg (.pair (I 0) (.pair (I 0) (.pair (I 0) (.pair (I 0) (.pair (.eq (.slice none 0 0)) (.eq (.slice none 0 0)))))))),.obj b9 26 (.agg (.pair (I r2.1) (.pair (I r4.1) (.pair (I r6.1) (.pair (I r8.1) (.pair (.eq u) (.eq (.slice none 0 0)))))))),.sl u 30 (.slice Tl) e.2.2.2.1,.obj c 71 (.agg (.pair (.rep Tl x.2.1) (.pair (I x.2.2.1) (.eq (.int .u64 x.2.2.2)))))]) (by kernel_rfl) dQ (by kernel_rfl) ?_;obtain⟨Wj,Y,h⟩:=aa h;refine fr 2 ?_;refine eG rfl rfl rfl (cO rfl rfl BG (am Y)) ⟨rfl,rfl,trivial⟩ λV0=>?_;refine fl eO ?_;refine tf λo29=>?_;refine fr 2 ?_;refine aJ rfl rfl (aE rfl lR o29 rfl rfl) ⟨rfl,rfl,trivial⟩ ?_;refine aF (bn ?_);exact jz (V0,(x.2.1,x.2.2.1,x.2.2.2,e.2.2.2.1++[x.1])) h [3,2,0,1]
   .refine ab (mq ?_);obtain⟨zz,U,h⟩:=aa h;refine jb (eM rfl U) ?_;refine aq (nl ?_);exact jz (D,(l.1,l.2.1,l.2.2.1,l.2.2.2,zz)) h [0,1,2,3]
  .refine xa ?_;exact jz (u,(e.2.2.2.1,e.1,e.2.1,e.2.2.1)) h [1,2,3,0]
 .
  refine sr (fr 1 ?_);refine fr 2 ?_;refine eF (nH (off:=4) [] trivial rfl rfl) ?_;refine lo gC ?_;refine fr 1 ?_;refine aJ rfl rfl (aE rfl gC trivial rfl rfl) ⟨rfl,rfl,trivial⟩ ?_;refine nt (ax (bF (SE.fin (Γ':=[(6,_)]) [2,0,1] ⟨rfl,trivial⟩ rfl) ?_));cases h;exact aP () [.agg (.pair (I r2.1) (.pair (I r4.1) (.pair (I r6.1) (.pair (I r8.1) (.pair (.rep (.slice (.slice Tl)) y.1) (.eq (.slice none 0 0)))))))] 1 ⟨⟨_,_,_,_,_,rfl,(.tail _ (.head _)),gC,(t7),rfl⟩,trivial⟩ rfl
def eY(k:Nat)(a0:ae)(a1:(List Int)):Nat->(Int×Int)->Option (Except ((Option ae)×Int×Int) Int)
 |0,_=>none
 |n+1,y5=>
  if y5.2 < (a1.length:Int) then((aR a1 y5.2).bind λx7=>
  (ck (a0.1 - 1)).bind λx8=>
  (dN k x7 0 x8).bind λr9=>
  if¬(r9=true) then(some (.error (none,0,3))) else(((if 0 < y5.2 then((ck (y5.2 - 1)).bind λh=>
  (aR a1 h).bind λe=>
  some (decide (x7≤e))) else(some false)):Option (Bool)).bind λj=>
  if j=true then(some (.error (none,0,5))) else((eW k y5.1 x7).bind λl=>
  (ck (y5.2+1)).bind λc=>
  eY k a0 a1 n (l,c)))) else(some (.ok y5.1))
def dF(k:Nat)(a0:ae)(h:Int)(e:(List Int)):Nat->Int->Option (Except ((Option ae)×Int×Int) Unit)
 |0,_=>none
 |n+1,c=>
  if c < (e.length:Int) then((aR e c).bind λu=>
  (ck (a0.1 - 1)).bind λs=>
  (ck ((a0.2.2.2.2.1.length:Int) - 1)).bind λr=>
  (aR [s,r,(a0.2.2.2.2.1.length:Int)] h).bind λl=>
  (dN k u 0 l).bind λx=>
  if¬(x=true) then(some (.error (none,0,3))) else((ck (c+1)).bind λj=>
  dF k a0 h e n j)) else(some (.ok ()))
def cT(k:Nat)(a0:ae)(a2:(List Int))(a3:(List Int))(a4:(List Int)):Nat->Int->Option (Except ((Option ae)×Int×Int) Unit)
 |0,_=>none
 |n+1,c=>
  if c < ([a2,a3,a4].length:Int) then(bE (α:=Unit) ((aR [a2,a3,a4] c).bind λj=>
  dF k a0 c j k 0) (λe=>some (.error e)) λ_=>
  (ck (c+1)).bind λh=>
  cT k a0 a2 a3 a4 n h) else(some (.ok ()))
def i9(k:Nat)(a0:ae)(a1:(List Int))(a2:(List Int))(a3:(List Int))(a4:(List Int)):Option ((Option ae)×Int×Int):=
 (mX k a0).bind λr2=>
 if¬(r2=0) then(some (none,0,r2)) else(bE (α:=Int) (eY k a0 a1 k (0,0)) (some) λx3=>
 bE (α:=Unit) (cT k a0 a2 a3 a4 k 0) (some) λ_=>
 (jd k a0).bind λe=>
 fF e (none) (λc=>(eC k c).bind λh=>
 some (some c,x3,0)))
theorem jS(k:Nat)(a0:ae)(a1:(List Int))(a2:(List Int))(a3:(List Int))(a4:(List Int))(r:(Option ae)×Int×Int)(h:i9 k a0 a1 a2 a3 a4=some r):
 bR (dJ Tryz.prog) 37 [.rep an a0,.rep Tl a1,.rep Tl a2,.rep Tl a3,.rep Tl a4] [] (λz:Nat×Nat=>(bM [K8 r.1 z.1,.eq (.int .u8 r.2.1),I r.2.2],K7 r.1 λq=>qO q z.1 z.2 k)):=by
 unfold i9 at h
 replace h:=bh h
 refine bR.of 95 Tryz.func37 rfl Tryz.ntmps37 rfl λS w0=>?_
 refine sr ?_
 refine bx λb1=>?_
 refine cq ?_
 refine cq ?_
 refine cq ?_
 refine nt ?_
 refine aj ?_
 refine sr ?_
 refine lo gC ?_
 obtain⟨r2,Wn,h⟩:=aa h
 have Wp:=xZ k a0 r2 Wn
 refine ja (ay [.tmp 22] rfl rfl UP rfl Wp) ?_
 refine aq ?_
 refine nt ?_
 refine sr ?_
 refine mq ?_
 refine jb (dZ rfl) ?_
 refine nt ?_
 refine cn h (λh=>?_) (λh=>?_)
 .
  refine sr (mq ?_);refine cq ?_;refine cq ?_;refine aq (nt (rx ?_));cases h;exact aP (0,0) [.eq (.pointer none),_,_] 0 ⟨rfl,rfl,rfl,trivial⟩ rfl
 .
  refine sk (sr (cq (nt ?_)));refine dK (Z:=Unit) (α:=Int) (λz4 x3=>[(2,.rep Tl a2),(3,.rep Tl a3),(4,.rep Tl a4),(5,Pt b1),(14,.eq (.int .u8 x3))]) (λz4 x3=>[.obj b1 26 (.rep an a0)]) (λe=>e=r) h (λe h=>Option.some.inj h) (λK hR h=>?_) (λz4 x3 h=>?_)
  .refine sr (mq ?_);refine ol ie ?_;refine eH rfl ?_;refine nt (ai (aL (λz6 y5=>[(1,.rep Tl a1),(2,.rep Tl a2),(3,.rep Tl a3),(4,.rep Tl a4),(5,Pt b1),(14,.eq (.int .u8 y5.1)),(27,.rep Tl a1),(28,I (a1.length:Int)),(29,I y5.2)]) (λz6 y5=>[.obj b1 26 (.rep an a0)]) (eY k a0 a1) k () (0,0) (λ_=>rfl) h (SE.fin [0] ⟨rfl,rfl,rfl,rfl,rfl,rfl,rfl,rfl,rfl,trivial⟩ rfl) (λn z6 y5 h=>?_)));unfold eY at h;refine sr (jb (bN rfl) ?_);refine nt (aj (ci h (λh=>?_) (λh=>?_)))
   .refine sk (aj (ai (sr (mq ?_))));obtain⟨x7,Wj,h⟩:=aa h;refine jb (aX (t:=Ti) rfl ie cx Wj) ?_;refine ja (au (t:=Ti) rfl cx rfl) ?_;refine aq ?_;refine aq (nt (aj (sr ?_)));refine mq ?_;refine fl gr ?_;refine lo cx ?_;obtain⟨x8,Wi,h⟩:=aa h;refine jb (eM rfl Wi) ?_;obtain⟨r9,Wm,h⟩:=aa h;refine jc (ay [.tmp 34,.const (.int .i64 (0)),.tmp 37] rfl rfl yt rfl (dS k x7 0 x8 r9 Wm)) ?_;refine ja (ic rfl) ?_;refine nt (cw h (λh=>?_) (λh=>?_))
    .refine sr (cq ?_);refine cq ?_;refine cq (nt (rx (br (ba (be ?_)))));obtain rfl:=hR _ h;exact aP (0,0) [.eq (.pointer none),_,_] 0 ⟨rfl,rfl,rfl,trivial⟩ rfl
    .refine sk (aj (aM (Z:=Unit) (α:=Bool) (λO y=>[(1,.rep Tl a1),(2,.rep Tl a2),(3,.rep Tl a3),(4,.rep Tl a4),(5,Pt b1),(14,.eq (.int .u8 y5.1)),(16,I x7),(27,.rep Tl a1),(28,I (a1.length:Int)),(29,I y5.2),(50,.eq (.bool y))]) (λO y=>[.obj b1 26 (.rep an a0)]) h (λK h=>?_) (λO y h=>?_)))
     .refine ab (mq ?_);refine jb (kB rfl) ?_;refine mq ?_;refine cQ (s:=42) rfl (λhb=>?_) (λhb=>?_)
      .replace h:=eL (va hb) h;refine gm ?_;refine gm ?_;refine gm ?_;obtain⟨Wt,V2,h⟩:=aa h;refine gb (eM rfl V2) ?_;obtain⟨Wc,V0,h⟩:=aa h;refine gb (aX (t:=Ti) rfl ie cx V0) ?_;refine ga (au (t:=Ti) rfl cx rfl) ?_;refine gb (Dz rfl) ?_;refine pt (nl ?_);exact jz ((),decide (x7≤Wc)) h [0]
      .replace h:=cY (vb hb) h;iterate 7 refine gn ?_
       refine pf (nl ?_);exact jz ((),false) h [0]
     .refine cv h (λh=>?_) (λh=>?_)
      .refine sr (cq ?_);refine cq ?_;refine cq (nt (rx (br (ba (be ?_)))));obtain rfl:=hR _ h;exact aP (0,0) [.eq (.pointer none),_,_] 0 ⟨rfl,rfl,rfl,trivial⟩ rfl
      .refine sk (ab ?_);iterate 2 refine mq ?_
       obtain⟨Y,V6,h⟩:=aa h;refine jb (ay [.tmp 51,.tmp 52] rfl rfl MD rfl (ix k y5.1 x7 Y V6)) ?_;refine aq (aF (aO (tn (ab ?_))));obtain⟨Wb,VZ,h⟩:=aa h;refine jb (bp rfl VZ) ?_;refine mq (nl ?_);exact jz ((),(Y,Wb)) h [0]
   .refine xa ?_;exact jz ((),y5.1) h [0]
  .refine dK (Z:=Unit) (α:=Unit) (λM U=>[(5,Pt b1),(14,.eq (.int .u8 x3))]) (λM U=>[.obj b1 26 (.rep an a0)]) (λe=>e=r) h (λe h=>Option.some.inj h) (λK hR h=>?_) (λM U h=>?_)
   .refine sr ?_;iterate 3 refine mq ?_
    refine jc (bj (t:=Tl) [(.tmp 55,_),(.tmp 56,_),(.tmp 57,_)] [a2,a3,a4] rfl rfl pM (.cons rfl .rep (.cons rfl .rep (.cons rfl .rep .nil))) rfl rfl) ?_;refine ol ta ?_;refine eH rfl ?_;refine nt (ai (aL (λJ c=>[(5,Pt b1),(14,.eq (.int .u8 x3)),(58,.rep (.slice Tl) [a2,a3,a4]),(59,I ([a2,a3,a4].length:Int)),(60,I c)]) (λJ c=>[.obj b1 26 (.rep an a0)]) (cT k a0 a2 a3 a4) k () 0 (λ_=>rfl) h (SE.fin [0] ⟨rfl,rfl,rfl,rfl,rfl,trivial⟩ rfl) (λn J c h=>?_)));unfold cT at h;refine sr (jb (bN rfl) ?_);refine nt (aj (ci h (λh=>?_) (λh=>?_)))
    .refine sk (dK (Z:=Unit) (α:=Unit) (λE Q=>[(5,Pt b1),(14,.eq (.int .u8 x3)),(58,.rep (.slice Tl) [a2,a3,a4]),(59,I ([a2,a3,a4].length:Int)),(60,I c)]) (λE Q=>[.obj b1 26 (.rep an a0)]) (λe=>e=r) h (λe h=>hR e h) (λK hR h=>?_) (λE Q h=>?_))
     .refine ai (sr (mq ?_));obtain⟨x,zM,h⟩:=aa h;refine jb (aX (t:=Tl) rfl ta gG zM) ?_;refine ja (au (t:=Tl) rfl gG rfl) ?_;refine aq ?_;refine aq (nt (sr ?_));refine mq ?_;refine ol ie ?_;refine eH rfl ?_;refine nt (ai (aL (λD u=>[(5,Pt b1),(14,.eq (.int .u8 x3)),(17,I c),(58,.rep (.slice Tl) [a2,a3,a4]),(59,I ([a2,a3,a4].length:Int)),(60,I c),(65,.rep Tl x),(66,I (x.length:Int)),(67,I u)]) (λD u=>[.obj b1 26 (.rep an a0)]) (dF k a0 c x) k () 0 (λ_=>rfl) h (SE.fin [0] ⟨rfl,rfl,rfl,rfl,rfl,rfl,rfl,rfl,rfl,trivial⟩ rfl) (λn D u h=>?_)));unfold dF at h;refine sr (jb (bN rfl) ?_);refine nt (aj (ci h (λh=>?_) (λh=>?_)))
      .refine sk (aj (ai (sr ?_)));obtain⟨Wa,zz,h⟩:=aa h;refine jb (aX (t:=Ti) rfl ie cx zz) ?_;refine ja (au (t:=Ti) rfl cx rfl) ?_;refine aq (nt (sr ?_));refine mq ?_;refine fl gr ?_;refine lo cx ?_;obtain⟨Ws,qt,h⟩:=aa h;refine jb (eM rfl qt) ?_;refine fl eO ?_;refine lo lR ?_;refine ol Bm ?_;obtain⟨Wq,pq,h⟩:=aa h;refine jb (eM rfl pq) ?_;refine fl eO ?_;refine lo lR ?_;refine ol Bm ?_;refine jc (E4 rfl Ta cx QR) ?_;refine mq ?_;obtain⟨V9,mw,h⟩:=aa h;refine jb (jP (t:=Ti) rfl Ta cx rfl rfl (λ_=>rfl) mw) ?_;obtain⟨Wg,V5,h⟩:=aa h;refine jc (ay [.tmp 71,.const (.int .i64 (0)),.tmp 84] rfl rfl yt rfl (dS k Wa 0 V9 Wg V5)) ?_;refine ja (ic rfl) ?_;refine nt (cw h (λh=>?_) (λh=>?_))
       .refine sr (cq ?_);refine cq ?_;refine cq (nt (ax (br (ba (br (ba (be ?_)))))));obtain rfl:=hR _ h;exact aP (0,0) [.eq (.pointer none),_,_] 0 ⟨rfl,rfl,rfl,trivial⟩ rfl
       .refine bf (aO (tn (ab ?_)));obtain⟨V8,mc,h⟩:=aa h;refine jb (bp rfl mc) ?_;refine mq (nl ?_);exact jz ((),V8) h [0]
      .refine d5 (bv (bv (cu (bn ?_))));exact jz ((),()) h [0]
     .refine ab ?_;obtain⟨V7,gw,h⟩:=aa h;refine jb (bp rfl gw) ?_;refine mq (nl ?_);exact jz ((),V7) h [0]
    .refine xa ?_;exact jz ((),()) h [0]
   .refine sr (lo gC ?_);obtain⟨X,V4,h⟩:=aa h;have j:=nR k a0 X V4;rcases hr:X with _ |Wh
    .rw [hr] at h j;replace h:=tR h;refine aN (Δ:=[]) (F:=_) (λ_ _ _=>ag rfl _) rfl rfl (ay [.tmp 89] rfl rfl MF rfl j) ⟨rfl,trivial⟩ λ_=>?_;cases h
    .rw [hr] at h j;replace h:=tQ h;refine aN (Δ:=[]) (F:=_) (λ_ _ _=>ag rfl _) rfl rfl (ay [.tmp 89] rfl rfl MF rfl j) ⟨rfl,trivial⟩ λl=>?_;refine aq (nt (sr ?_));refine mq ?_;obtain⟨We,V3,h⟩:=aa h;refine fr 1 ?_;refine fr 1 ?_;refine aN (Δ:=[_,_]) (F:=_) (λ_ _ _=>ag rfl _) rfl rfl (aS [.tmp 91] rfl rfl UO rfl (qs k Wh l.1 l.2 We V3)) ⟨rfl,trivial⟩ λ_=>?_;refine nt (sr ?_);iterate 2 refine mq ?_
     refine aq ?_;refine aq ?_;refine cq (nt (ax ?_));cases h;exact aP (l.1,l.2) [.eq (.pointer (some ⟨l.1,0,none⟩)),_,_] 2 ⟨rfl,rfl,rfl,trivial⟩ rfl
def cD(k:Nat)(a0:ae)(a2:Int)(r1:(List (List Int))):Nat->Int->Option Bool
 |0,_=>none
 |n+1,y3=>
  if y3 < (a0.2.2.2.2.2.length:Int) then((aR a0.2.2.2.2.2 y3).bind λx5=>
  (((eX k a2 y3).bind λr9=>
  if¬(r9=true) then((aR r1 x5.2.1).bind λh=>
  (aR h x5.1).bind λe=>
  some (!decide ((decide (a0.2.2.1≤e))=x5.2.2))) else(some false)):Option (Bool)).bind λx7=>
  if x7=true then(some false) else((ck (y3+1)).bind λc=>
  cD k a0 a2 r1 n c)) else(some true)
def gy(k:Nat)(a0:ae)(a1:Int)(a2:Int):Option Bool:=
 (kz k a0 a1).bind λr1=>
 cD k a0 a2 r1 k 0
theorem oL(k:Nat)(a0:ae)(c z_a0:Nat)(a1:Int)(a2:Int)(r:Bool)(h:gy k a0 a1 a2=some r):
 Dh (dJ Tryz.prog) 109 [Pt c,.eq (.int .u8 a1),.eq (.int .u8 a2)] [.obj c 125 (aI a0 z_a0),.inv z_a0 (bD k a0)] (.iface 156 (.agg #[])) r:=by
 unfold gy at h
 replace h:=bh h
 refine Dh.of 48 Tryz.func109 rfl Tryz.ntmps109 rfl λS w0=>?_
 refine sr ?_
 iterate 2 refine mq ?_
 obtain⟨r1,E,h⟩:=aa h
 have J:=nE k a0 c z_a0 a1 r1 E
 refine fr 1 ?_
 refine fr 1 ?_
 refine aN (Δ:=[_,_]) (F:=_) (λ_ _ _=>ag rfl _) rfl rfl (aS [.tmp 9,.tmp 10] rfl rfl CS rfl J) ⟨rfl,rfl,trivial⟩ λ_=>?_
 refine aW rfl rfl rfl (bb rfl Gq Ji) trivial λb2=>?_
 refine aJ rfl rfl (aE rfl G8 rfl rfl rfl) ⟨rfl,rfl,trivial⟩ ?_
 refine eF (jD (t:=(.arr 7 Tr)) (x:=r1) [6] .rep ⟨rfl,trivial⟩) ?_
 refine nt ?_
 refine sr ?_
 refine mq ?_
 refine ja (cR rfl) ?_
 refine fl ia ?_
 refine fl sW ?_
 refine lo EU ?_
 refine ol QO ?_
 refine eH rfl ?_
 refine nt ?_
 refine ai ?_
 refine aL (λz4 y3=>[(0,Pt c),(2,.eq (.int .u8 a2)),(6,.at (.arr 7 Tr) r1),(16,Rs bz a0.2.2.2.2.2),(17,I (a0.2.2.2.2.2.length:Int)),(18,I y3)]) (λz4 y3=>[.obj c 125 (aI a0 z_a0),.inv z_a0 (bD k a0)]) (cD k a0 a2 r1) k () 0 (λ_=>rfl) h (SE.fin [0,1] ⟨rfl,rfl,rfl,rfl,rfl,rfl,trivial⟩ rfl) (λn z4 y3 h=>?_)
 unfold cD at h
 refine sr ?_
 refine jb (bN rfl) ?_
 refine nt ?_
 refine aj ?_
 refine ci h (λh=>?_) (λh=>?_)
 .
  refine sk (aj (ai (sr (mq ?_))));obtain⟨x5,y,h⟩:=aa h;refine jb (aX (t:=bz) rfl QO sb y) ?_;refine ja (au (t:=bz) rfl sb rfl) ?_;refine aW rfl rfl rfl (bb rfl Bn Jj) trivial λb6=>?_;refine aq ?_;refine aJ rfl rfl (aE rfl sb rfl rfl rfl) ⟨rfl,rfl,trivial⟩ ?_;refine nt (aM (Z:=Unit) (α:=Bool) (λz8 x7=>[(0,Pt c),(2,.eq (.int .u8 a2)),(6,.at (.arr 7 Tr) r1),(16,Rs bz a0.2.2.2.2.2),(17,I (a0.2.2.2.2.2.length:Int)),(18,I y3),(44,.eq (.bool x7))]) (λz8 x7=>[.obj c 125 (aI a0 z_a0),.inv z_a0 (bD k a0)]) h (λK h=>?_) (λz8 x7 h=>?_))
  .refine cV ?_;refine dm ?_;refine dm ?_;obtain⟨r9,D,h⟩:=aa h;refine db (ay [.tmp 23,.tmp 24] rfl rfl IX rfl (gQ k a2 y3 r9 D)) ?_;refine da (ic rfl) ?_;refine nL rfl rfl rfl (aV rfl) ⟨rfl,trivial⟩ (λhb=>?_) (λhb=>?_)
   .replace h:=eL (zO hb) h;refine bg rfl rfl rfl rfl rfl (aH rfl CJ) ⟨rfl,rfl,trivial⟩ ?_;refine kS 0 rfl rfl rfl rfl rfl rfl (aC rfl cx nW rfl) ⟨rfl,rfl,trivial⟩ ?_;refine bg rfl rfl rfl rfl rfl (aH rfl CL) ⟨rfl,rfl,trivial⟩ ?_;refine kS 0 rfl rfl rfl rfl rfl rfl (aC rfl cx nW rfl) ⟨rfl,rfl,trivial⟩ ?_;obtain⟨M,l,h⟩:=aa h;refine bg rfl rfl rfl rfl rfl (cy (t:=Tr) rfl Jr iT l) ⟨rfl,rfl,rfl,trivial⟩ ?_;obtain⟨u,j,h⟩:=aa h;refine bg rfl rfl rfl rfl rfl (cy (t:=Ti) rfl Bl cx j) ⟨rfl,rfl,rfl,trivial⟩ ?_;refine bg rfl rfl rfl rfl rfl (au (t:=Ti) rfl cx rfl) ⟨rfl,rfl,trivial⟩ ?_;refine bg rfl rfl rfl rfl rfl (aV rfl) ⟨rfl,rfl,trivial⟩ ?_;refine bg rfl rfl rfl rfl rfl (cR rfl) ⟨rfl,rfl,trivial⟩ ?_;refine bg rfl rfl rfl rfl rfl (aH rfl ia) ⟨rfl,rfl,trivial⟩ ?_;refine bg rfl rfl rfl rfl rfl (aH rfl yn) ⟨rfl,rfl,trivial⟩ ?_;refine kS 1 rfl rfl rfl rfl rfl rfl (aC rfl cx nW rfl) ⟨rfl,rfl,trivial⟩ ?_;refine bg rfl rfl rfl rfl rfl (jt rfl) ⟨rfl,rfl,rfl,trivial⟩ ?_;refine bg rfl rfl rfl rfl rfl (aH rfl IR) ⟨rfl,rfl,trivial⟩ ?_;refine kS 0 rfl rfl rfl rfl rfl rfl (aC rfl Vy nW rfl) ⟨rfl,rfl,trivial⟩ ?_;refine df dQ ?_;refine gb (HO rfl U4) ?_;refine pt (nl ?_);exact jz ((), !decide ((decide (a0.2.2.1≤u))=x5.2.2)) h [1,2]
   .replace h:=cY (tu hb) h;iterate 15 refine dg ?_
    refine df dQ ?_;refine gn ?_;refine pf (nl ?_);exact jz ((),false) h [1,2]
  .refine cv h (λh=>?_) (λh=>?_)
   .refine ab (cf rfl (HV rfl Qp QQ) trivial ?_);refine ja (HS rfl Qp) ?_;refine F7 rfl rfl rfl rfl ?_;refine A6 ?_;refine ti ?_;refine ti ?_;refine A6 ?_;refine bF (SE.fin (Γ':=[]) [0,1] trivial rfl) ?_;cases h;exact NE
   .refine bf (aO (tn (ab ?_)));obtain⟨s,e,h⟩:=aa h;refine jb (bp rfl e) ?_;refine mq (nl ?_);exact jz ((),s) h [0,1]
 .
  refine d5 (bv (bv (cu (jp ?_))));refine bF (SE.fin (Γ':=[]) [0,1] trivial rfl) ?_;cases h;exact aP () [] 2 trivial rfl
def dj(k:Nat)(a0:ae)(a1:Int)(a2:Int):Option Bool:=gy k a0 a1 a2
theorem N7:Qq Tryz.prog 156 (.agg #[]):=⟨⟨_,Qp⟩,λw=>by kernel_rfl⟩
theorem IZ:∀(S:FS) (w:World),(A.rep (.arr 0 Ti) []).holds S w (.agg #[]):=λ_ _=>⟨[],⟨rfl,rfl⟩,rfl⟩
theorem NV:∀w,(zeroValue 156).run Tryz.prog w= .ok (.agg #[]) w:=λw=>by kernel_rfl
theorem Oz:∀S w,(A.cells S w (.rep (.arr 0 Ti) []) (Value.cells (.agg #[])).toList):=λ_ _=>⟨rfl,rfl⟩
theorem N9:dY Tryz.prog 156 0 true:=⟨λw=>by kernel_rfl,λw=>by kernel_rfl⟩
theorem SR:ah Tryz.prog 108:=ah.of Tryz.func108 (by kernel_rfl) (by kernel_rfl)
theorem Ol:ah Tryz.prog 109:=ah.of Tryz.func109 (by kernel_rfl) (by kernel_rfl)
theorem KL:dY Tryz.prog 4 1 false:=⟨λw=>by kernel_rfl,λw=>by kernel_rfl⟩
theorem T8:∀w,(zeroValue 4).run Tryz.prog w= .ok (.bool false) w:=λw=>by kernel_rfl
theorem Vi:∀S w,(A.cells S w (.eq (.bool false)) (Value.cells (.bool false)).toList):=λ_ _=>⟨rfl,rfl⟩
theorem AK:yQ Tryz.prog 108 (.iface 156 (.agg #[])) 4 (.bool false):=by
 refine⟨SR,λM e0=>?_,λM e0=>?_⟩
 .refine lO.of (M:=M) (m:=.returning) (m1:=.returning) (val:=.nilIface) Tryz.func108 rfl rfl (by decide) rfl rfl (by decide) (λρ=>rfl) (λfr b cs hb hm=>Hy hb hm rfl) (.inl rfl) λb S w0=>?_;refine ja (Lc IZ rfl N7) ?_;refine mq ?_;refine xr ?_;refine xr ?_;refine aW rfl rfl rfl (bb rfl NV Oz) trivial λb1=>?_;refine aJ rfl rfl (aE rfl N9 rfl rfl rfl) ⟨rfl,rfl,trivial⟩ ?_;refine aq (nt (sr ?_));refine mq (nt ?_);refine jq rfl (λhb=>by cases hb) (λhb=>?_);refine bf (jp ?_);refine bF (SE.fin (Γ':=[]) [1] trivial rfl) ?_;exact aP () [] 1 trivial rfl
 .refine lO.of (M:=M) (m:=.panicking (ij (.iface 156 (.agg #[])) false)) (m1:=.panicking (ij (.iface 156 (.agg #[])) true)) (val:=.iface 156 (.agg #[])) Tryz.func108 rfl rfl (by decide) rfl rfl (by decide) (λρ=>rfl) (λfr b cs hb hm=>Hw hb hm) (.inr ⟨_,rfl⟩) λb S w0=>?_;refine ja (La IZ rfl N7) ?_;refine mq ?_;refine xr ?_;refine xr ?_;refine aW rfl rfl rfl (bb rfl NV Oz) trivial λb1=>?_;refine aJ rfl rfl (aE rfl N9 rfl rfl rfl) ⟨rfl,rfl,trivial⟩ ?_;refine aq (nt (sr ?_));refine mq (nt ?_);refine jq rfl (λhb=>?_) (λhb=>by cases hb);refine ab (fr 1 ?_);refine aJ rfl rfl (aE rfl KL rfl rfl rfl) ⟨rfl,rfl,trivial⟩ ?_;refine aF (jp ?_);refine bF (SE.fin (Γ':=[]) [0] trivial rfl) ?_;exact aP () [] 1 trivial rfl
theorem nY(k:Nat)(a0:ae)(c z_a0:Nat)(a1:Int)(a2:Int)(r:Bool)(h:dj k a0 a1 a2=some r):
 bR (dJ Tryz.prog) 74 [Pt c,.eq (.int .u8 a1),.eq (.int .u8 a2)] (qO a0 c z_a0 k) (λ_:Unit=>(bM [.eq (.bool r)],qO a0 c z_a0 k)):=by
 have cr:=oL k a0 c z_a0 a1 a2 r h
 refine Ba 12 Tryz.func74 rfl Tryz.ntmps74 rfl λS w0=>?_
 refine sr ?_
 refine aW rfl rfl rfl (bb rfl T8 Vi) trivial λb6=>?_
 refine nt ?_
 refine sr ?_
 refine ja (oG [] [.tmp 6] [] [(Pv b6)] rfl rfl rfl) ?_
 refine JJ rfl rfl rfl rfl rfl ?_
 refine nt ?_
 refine sr ?_
 iterate 3 refine mq ?_
 refine fr 2 ?_
 refine fr 2 ?_
 cases r with
 |false=>
  refine JK (Ss:=[Pt c,.eq (.int .u8 a1),.eq (.int .u8 a2)]) (Δ:=qO a0 c z_a0 k) (F:=[.obj b6 4 (.eq (.bool false))]) [.tmp 8,.tmp 9,.tmp 10] rfl rfl rfl rfl Ol ⟨rfl,rfl,rfl,trivial⟩ cr ?_;refine ti ?_;refine bF (SE.fin (Γ':=[(6,_)]) [2,0,1] ⟨rfl,trivial⟩ rfl) ?_;refine F9 AK ?_;refine bF (SE.fin (Γ':=[(6,_)]) [1,2,0] ⟨rfl,trivial⟩ rfl) ?_;exact aP () [.eq (.bool false)] 2 ⟨⟨_,_,_,_,_,rfl,(.tail _ (.tail _ (.head _))),KL,(λ_=>rfl),rfl⟩,trivial⟩ rfl
 |true=>
  refine aN (Δ:=qO a0 c z_a0 k) (F:=[.obj b6 4 (.eq (.bool false))]) (λ_ _ _=>ag rfl _) rfl rfl (aS [.tmp 8,.tmp 9,.tmp 10] rfl rfl Ol rfl cr.ok) ⟨rfl,rfl,rfl,trivial⟩ λ_=>?_;refine nt (sr (fr 2 ?_));refine aJ rfl rfl (aE rfl KL rfl rfl rfl) ⟨rfl,rfl,trivial⟩ ?_;refine nt (ax (ND AK ?_));refine bF (SE.fin (Γ':=[(6,_)]) [1,2,0] ⟨rfl,trivial⟩ rfl) ?_;exact aP () [.eq (.bool true)] 2 ⟨⟨_,_,_,_,_,rfl,(.tail _ (.tail _ (.head _))),KL,(λ_=>rfl),rfl⟩,trivial⟩ rfl
def cg(k:Nat)(a0:ae)(a1:Int):Option (List Int):=
 (jU k (lm (λ(y5:(List Int)) (p7:Int)=>
  (dj k a0 p7 a1).bind λr9=>
  if r9=true then((cP (bW (length y5+length [p7]))).bind λ_=>
  some (y5++[p7],true)) else(some (y5,true)))) a0.1 (([]:(List Int)),false)).bind λr8=>
 if r8.2=true then(none) else(some r8.1)
theorem ii(k:Nat)(a0:ae)(c z_a0:Nat)(a1:Int)(r:(List Int))(h:cg k a0 a1=some r):
 bR (dJ Tryz.prog) 38 [Pt c,.eq (.int .u8 a1)] [.obj c 125 (aI a0 z_a0),.inv z_a0 (bD k a0)] (λ_:Unit=>(bM [.rep (.slice (.int .u8)) r],[.obj c 125 (aI a0 z_a0),.inv z_a0 (bD k a0)])):=by
 unfold cg at h
 replace h:=bh h
 refine vB 23 Tryz.func38 rfl Tryz.ntmps38 rfl λS w0=>?_
 refine sr ?_
 refine bx λb1=>?_
 refine bx λb2=>?_
 refine cq ?_
 refine nt ?_
 refine sr ?_
 refine aW rfl rfl rfl (bb rfl J9 Nb) trivial λb3=>?_
 refine nt ?_
 refine aj ?_
 refine sr ?_
 refine fr 2 ?_
 refine lo BD ?_
 refine ja (cR rfl) ?_
 refine fl ia ?_
 refine fl gr ?_
 refine fr 3 ?_
 refine lo cx ?_
 refine aW rfl rfl rfl (ay [.tmp 11] rfl rfl Sl rfl (rC a0.1)) ⟨rfl,trivial⟩ λb4=>?_
 refine nt ?_
 refine ai ?_
 refine iO (SE.nil 73 (.int .u8)) ?_
 refine cE 6 rfl ?_
 refine cE 6 rfl ?_
 refine cE 2 rfl ?_
 refine cE 6 rfl ?_
 refine cE 6 rfl ?_
 refine cE 6 rfl ?_
 refine cE 6 rfl ?_
 obtain⟨r8,s,h⟩:=aa h
 refine nK (Δ:=[.obj b4 3 (I a0.1),.obj c 125 (aI a0 z_a0),.obj b1 72 (Pt c),.obj b3 76 (.eq (.slice none 0 0)),.sl (.slice none 0 0) 73 (.int .u8) ([]:(List Int)),.obj b2 73 (.eq (.int .u8 a1)),.inv z_a0 (bD k a0)]) (F:=[]) (X:=Value) (J:=λ_=>LZ r8.2) (E:=λz6=>[.obj b4 3 (I a0.1),.obj c 125 (aI a0 z_a0),.obj b1 72 (Pt c),.obj b3 76 (.eq z6),.sl z6 73 (.int .u8) r8.1,.obj b2 73 (.eq (.int .u8 a1)),.inv z_a0 (bD k a0)]) (r0:=λ_=>.tup .any) rfl rfl On (λrec hp ha hb hs hpe hN hv l=>?_) (λdl z6=>pZ (λhj=>?_) (λhj=>?_))
 .
  rcases rec with⟨st0,pe0,fn0,tm0,ps0,as0,bd0,df0⟩;dsimp only at hp ha hb hs hpe hN hv;subst hp hs hpe;have vN:yJ tm0 [(2,Pt b1),(3,Pt b2),(5,Pt b3)]:=⟨congrArg A.eq (hv 2 _ rfl).symm,congrArg A.eq (hv 3 _ rfl).symm,congrArg A.eq (hv 5 _ rfl).symm,trivial⟩;refine bR.pick (M:=(dJ Tryz.prog)) [1,0,2,3,4,5,6,7] [1,0,2,3,4,5,6,7] (oM (λ(z6:Value) (q:(List Int)×Bool)=>[.raw l (.loop (iY ⟨.ready,none,fn0,tm0, #[13],as0,bd0,df0⟩ (LZ q.2))),.obj c 125 (aI a0 z_a0),.obj b1 72 (Pt c),.obj b3 76 (.eq z6),.sl z6 73 (.int .u8) q.1,.obj b2 73 (.eq (.int .u8 a1)),.inv z_a0 (bD k a0)]) l (lm (λ(y5:(List Int)) (p7:Int)=>
  (dj k a0 p7 a1).bind λr9=>
  if r9=true then((cP (bW (length y5+length [p7]))).bind λ_=>
  some (y5++[p7],true)) else(some (y5,true)))) k a0.1 b4 (λz6 q p r' h=>?_) (.slice none 0 0) (([]:(List Int)),false) r8 s) rfl (λ_=>rfl) (λ_=>rfl)
  obtain⟨rq,hq,h2,rfl⟩:=qc h;obtain⟨y5,b5⟩:=q;obtain rfl:b5=false:=hq;replace h:=bh h2;obtain⟨p7,hpv⟩:∃x,x=p:=⟨_,rfl⟩;subst hpv;refine YT.pick (R':=(λz6:Value=>(.eq (.bool rq.2),[.raw l (.loop (iY ⟨.ready,none,fn0,tm0, #[13],as0,bd0,df0⟩ (LZ (!rq.2)))),.obj c 125 (aI a0 z_a0),.obj b1 72 (Pt c),.obj b3 76 (.eq z6),.sl z6 73 (.int .u8) rq.1,.obj b2 73 (.eq (.int .u8 a1)),.inv z_a0 (bD k a0)]))) [0,1,2,3,4,5,6] [0,1,2,3,4,5,6] (C5 ha hb (N:=23) (Γ:=[(2,Pt b1),(3,Pt b2),(5,Pt b3)]) rfl hN (by decide) vN (λS w=>?_)) rfl (λ_=>rfl) (λ_=>rfl);refine ab (aq (nl ?_));refine vy rfl rfl ?_;refine ai (sr (fr 2 ?_));refine lo BD ?_;refine mq ?_;refine fr 5 ?_;refine lo oh ?_;obtain⟨r9,n,h⟩:=aa h;refine fr 6 ?_;refine fr 4 ?_;refine aN (Δ:=[_,_]) (F:=_) (λ_ _ _=>ag rfl _) rfl rfl (aS [.tmp 14,.tmp 15,.tmp 16] rfl rfl UN rfl (nY k a0 c z_a0 p7 a1 r9 n)) ⟨rfl,rfl,rfl,trivial⟩ λ_=>?_;refine nt (cv h (λh=>?_) (λh=>?_))
  .refine ab (fr 5 ?_);refine lo xz ?_;refine mq ?_;refine ja (bj (t:=(.int .u8)) [(.tmp 19,_)] [p7] rfl rfl KX (.cons rfl .int .nil) rfl rfl) ?_;obtain⟨u,e,h⟩:=aa h;refine fr 6 ?_;refine eG rfl rfl rfl (cO rfl rfl KX (am e)) ⟨rfl,rfl,trivial⟩ λj=>?_;refine tf λo12=>?_;refine fr 1 ?_;refine aJ rfl rfl (aE rfl xz o12 rfl rfl) ⟨rfl,rfl,trivial⟩ ?_;refine aF (aO (aD 3 rfl ?_));refine aD 4 rfl ?_;refine aD 3 rfl ?_;refine aD 3 rfl ?_;refine aD 5 rfl ?_;refine aD 5 rfl ?_;refine aD 6 rfl ?_;cases h;exact kZ j 6 rfl
  .refine bf (aO (aD 1 rfl ?_));refine aD 2 rfl ?_;refine aD 6 rfl ?_;refine aD 6 rfl ?_;refine aD 5 rfl ?_;refine aD 5 rfl ?_;refine aD 6 rfl ?_;cases h;exact kZ z6 6 rfl
 .
  replace h:=cY (N6 hj) h;refine aO (tn (sr (fr 4 ?_)));refine lo xz ?_;refine aq (nt (ax ?_));refine aD 5 rfl ?_;refine bF (nH (off:=0) [4,22] ⟨rfl,rfl,trivial⟩ rfl rfl) ?_;refine aD 1 rfl ?_;refine EE ?_;refine bF (SE.fin (Γ':=[(4,_)]) [2,5,0,1,3,4] ⟨rfl,trivial⟩ rfl) ?_;cases h;exact aP () [_] 2 ⟨rfl,trivial⟩ rfl
 .
  replace h:=eL (N4 hj) h;cases h
def eu(k:Nat)(r7:(List Int)):Nat->((List (List Int))×Int)->Option (List (List Int))
 |0,_=>none
 |n+1,y8=>
  if y8.2 < (r7.length:Int) then((aR r7 y8.2).bind λh=>
  (fU k h).bind λc=>
  (cP (bW (length y8.1+length [c]))).bind λ_=>
  (ck (y8.2+1)).bind λe=>
  eu k r7 n (y8.1++[c],e)) else(some y8.1)
def iG(k:Nat)(a0:ae):Option ((List (List Int))×Int):=
 (i9 k a0 ([]:(List Int)) ([]:(List Int)) ([]:(List Int)) ([]:(List Int))).bind λr2=>
 fF r2.1 (if¬(r2.2.2=0) then(some (([]:(List (List Int))),r2.2.2)) else(none)) (λq3=>if¬(r2.2.2=0) then(some (([]:(List (List Int))),r2.2.2)) else((((cg k q3 0).bind λr7=>
 eu k r7 k (([]:(List (List Int))),0)):Option ((List (List Int)))).bind λx5=>
 some (x5,0)))
theorem pT(k:Nat)(a0:ae)(r:(List (List Int))×Int)(h:iG k a0=some r):
 bR (dJ Tryz.prog) 11 [.rep an a0] [] (λ_:Unit=>(bM [.rep (.slice Tl) r.1,I r.2],[])):=by
 unfold iG at h
 replace h:=bh h
 refine bR.of 33 Tryz.func11 rfl Tryz.ntmps11 rfl λS w0=>?_
 refine sr ?_
 refine bx λb1=>?_
 refine cq ?_
 refine cq ?_
 refine nt ?_
 refine sr ?_
 refine lo gC ?_
 obtain⟨r2,M,h⟩:=aa h
 have c:=jS k a0 ([]:(List Int)) ([]:(List Int)) ([]:(List Int)) ([]:(List Int)) r2 M
 rcases hr:r2.1 with _ |q3
 .
  rw [hr] at h c;replace h:=tR h;refine aN (Δ:=[]) (F:=_) (λ_ _ _=>ag rfl _) rfl rfl (bJ (N:=[(.tmp 11,.rep an a0),(.const (.slice none 0 0),.eq (.slice none 0 0)),(.const (.slice none 0 0),.eq (.slice none 0 0)),(.const (.slice none 0 0),.eq (.slice none 0 0)),(.const (.slice none 0 0),.eq (.slice none 0 0))]) (aS [.tmp 11,.const (.slice none 0 0),.const (.slice none 0 0),.const (.slice none 0 0),.const (.slice none 0 0)] rfl rfl wa rfl c) λ_ _ _ hn=>⟨hn.1,(aA (t:=Tl) (x:=([]:(List Int))) .nil rfl rfl hn.2.1),(aA (t:=Tl) (x:=([]:(List Int))) .nil rfl rfl hn.2.2.1),(aA (t:=Tl) (x:=([]:(List Int))) .nil rfl rfl hn.2.2.2.1),(aA (t:=Tl) (x:=([]:(List Int))) .nil rfl rfl hn.2.2.2.2.1),trivial⟩) ⟨rfl,rfl,rfl,rfl,rfl,trivial⟩ λ_=>?_;refine mq ?_;refine xr ?_;refine xr ?_;refine xr ?_;refine aq ?_;refine aq ?_;refine aq (nt (aj (sr ?_)));refine mq ?_;refine jb (dZ rfl) ?_;refine nt (cn h (λh=>?_) (λh=>?_))
  .refine sr (mq ?_);refine cq ?_;refine aq (nt (rx ?_));refine bF (eg (t:=(.slice Tl)) (x:=([]:(List (List Int)))) 2 rfl .nil rfl rfl) ?_;cases h;exact rb
  .cases h
 .
  rw [hr] at h c;replace h:=tQ h;refine aN (Δ:=[]) (F:=_) (λ_ _ _=>ag rfl _) rfl rfl (bJ (N:=[(.tmp 11,.rep an a0),(.const (.slice none 0 0),.eq (.slice none 0 0)),(.const (.slice none 0 0),.eq (.slice none 0 0)),(.const (.slice none 0 0),.eq (.slice none 0 0)),(.const (.slice none 0 0),.eq (.slice none 0 0))]) (aS [.tmp 11,.const (.slice none 0 0),.const (.slice none 0 0),.const (.slice none 0 0),.const (.slice none 0 0)] rfl rfl wa rfl c) λ_ _ _ hn=>⟨hn.1,(aA (t:=Tl) (x:=([]:(List Int))) .nil rfl rfl hn.2.1),(aA (t:=Tl) (x:=([]:(List Int))) .nil rfl rfl hn.2.2.1),(aA (t:=Tl) (x:=([]:(List Int))) .nil rfl rfl hn.2.2.2.1),(aA (t:=Tl) (x:=([]:(List Int))) .nil rfl rfl hn.2.2.2.2.1),trivial⟩) ⟨rfl,rfl,rfl,rfl,rfl,trivial⟩ λz4=>?_;refine mq ?_;refine xr ?_;refine xr ?_;refine xr ?_;refine aq ?_;refine aq ?_;refine aq (nt (aj (sr ?_)));refine mq ?_;refine jb (dZ rfl) ?_;refine nt (cn h (λh=>?_) (λh=>?_))
  .refine sr (mq ?_);refine cq ?_;refine aq (nt (rx ?_));refine bF (eg (t:=(.slice Tl)) (x:=([]:(List (List Int)))) 2 rfl .nil rfl rfl) ?_;cases h;exact rb
  .refine sk (sr (cq (nt ?_)));refine aM (Z:=Value) (α:=(List (List Int))) (λz6 x5=>[(7,.eq z6)]) (λz6 x5=>[.sl z6 22 Tl x5,.inv z4.2 (bD k q3)]) h (λK h=>?_) (λz6 x5 h=>?_)
   .refine sr (mq ?_);obtain⟨r7,J,h⟩:=aa h;refine fr 1 ?_;refine fr 1 ?_;refine aN (Δ:=[_,_]) (F:=_) (λ_ _ _=>ag rfl _) rfl rfl (aS [.tmp 19,.const (.int .u8 (0))] rfl rfl P4 rfl (ii k q3 z4.1 z4.2 0 r7 J)) ⟨rfl,rfl,trivial⟩ λ_=>?_;refine ol xj ?_;refine eH rfl ?_;refine nt (ai (iO (SE.nil 22 Tl) ?_));refine aL (λz9 y8=>[(7,.eq z9),(20,.rep (.slice (.int .u8)) r7),(21,I (r7.length:Int)),(22,I y8.2)]) (λz9 y8=>[.sl z9 22 Tl y8.1,.inv z4.2 (bD k q3)]) (eu k r7) k (.slice none 0 0) (([]:(List (List Int))),0) (λ_=>rfl) h (SE.fin [0,2] ⟨rfl,rfl,rfl,rfl,trivial⟩ rfl) (λn z9 y8 h=>?_);unfold eu at h;refine sr (jb (bN rfl) ?_);refine nt (aj (ci h (λh=>?_) (λh=>?_)))
    .refine sk (aj (ai (sr ?_)));obtain⟨D,l,h⟩:=aa h;refine jb (aX (t:=(.int .u8)) rfl xj oh l) ?_;refine ja (au (t:=(.int .u8)) rfl oh rfl) ?_;refine aq (nt (ab ?_));iterate 2 refine mq ?_
     obtain⟨e,u,h⟩:=aa h;refine ja (ay [.tmp 27] rfl rfl P3 rfl (kw k D e u)) ?_;refine ja (bj (t:=Tl) [(.tmp 28,_)] [e] rfl rfl pM (.cons rfl .rep .nil) rfl rfl) ?_;obtain⟨O,s,h⟩:=aa h;refine eG rfl rfl rfl (cO rfl rfl pM (am s)) ⟨rfl,rfl,trivial⟩ λE=>?_;refine aq (aF (aO (tn (ab ?_))));obtain⟨y,j,h⟩:=aa h;refine jb (bp rfl j) ?_;refine mq (nl ?_);exact jz (E,(y8.1++[e],y)) h [0,1]
    .refine xa ?_;exact jz (z9,y8.1) h [0,1]
   .refine sr (mq ?_);refine aq ?_;refine cq (nt (ax ?_));refine bF (jo [2,7,32] ⟨rfl,rfl,rfl,trivial⟩) ?_;cases h;exact rb
def eo(k:Nat)(a0:ae)(r5:(List (List Int)))(x9:Int):Nat->((List (List Int))×Int)->Option (List (List Int))
 |0,_=>none
 |n+1,c=>
  if c.2 < x9 then((aR r5 c.2).bind λj=>
  (cP (0≤a0.1/\a0.1≤5)).bind λ_=>
  (dx k (List.take (Int.toNat a0.1) j)).bind λe=>
  (cP (bW (length c.1+length [e]))).bind λ_=>
  (ck (c.2+1)).bind λh=>
  eo k a0 r5 x9 n (c.1++[e],h)) else(some c.1)
def jx(k:Nat)(a0:ae)(a1:(List Int)):Option ((List (List Int))×Int):=
 (i9 k a0 a1 ([]:(List Int)) ([]:(List Int)) ([]:(List Int))).bind λr2=>
 fF r2.1 (if¬(r2.2.2=0) then(some (([]:(List (List Int))),r2.2.2)) else(none)) (λq3=>if¬(r2.2.2=0) then(some (([]:(List (List Int))),r2.2.2)) else((kz k q3 r2.2.1).bind λr5=>
 (((ck ((a0.2.2.2.2.1.length:Int)+1)).bind λx9=>
 eo k a0 r5 x9 k (([]:(List (List Int))),0)):Option ((List (List Int)))).bind λx7=>
 some (x7,0)))
theorem pS(k:Nat)(a0:ae)(a1:(List Int))(r:(List (List Int))×Int)(h:jx k a0 a1=some r):
 bR (dJ Tryz.prog) 12 [.rep an a0,.rep Tl a1] [] (λ_:Unit=>(bM [.rep (.slice Tl) r.1,I r.2],[])):=by
 unfold jx at h
 replace h:=bh h
 refine bR.of 43 Tryz.func12 rfl Tryz.ntmps12 rfl λS w0=>?_
 refine sr ?_
 refine bx λb1=>?_
 refine cq ?_
 refine cq ?_
 refine nt ?_
 refine sr ?_
 refine lo gC ?_
 refine mq ?_
 obtain⟨r2,X,h⟩:=aa h
 have j:=jS k a0 a1 ([]:(List Int)) ([]:(List Int)) ([]:(List Int)) r2 X
 rcases hr:r2.1 with _ |q3
 .
  rw [hr] at h j;replace h:=tR h;refine aN (Δ:=[]) (F:=_) (λ_ _ _=>ag rfl _) rfl rfl (bJ (N:=[(.tmp 13,.rep an a0),(.tmp 14,.rep Tl a1),(.const (.slice none 0 0),.eq (.slice none 0 0)),(.const (.slice none 0 0),.eq (.slice none 0 0)),(.const (.slice none 0 0),.eq (.slice none 0 0))]) (aS [.tmp 13,.tmp 14,.const (.slice none 0 0),.const (.slice none 0 0),.const (.slice none 0 0)] rfl rfl wa rfl j) λ_ _ _ hn=>⟨hn.1,hn.2.1,(aA (t:=Tl) (x:=([]:(List Int))) .nil rfl rfl hn.2.2.1),(aA (t:=Tl) (x:=([]:(List Int))) .nil rfl rfl hn.2.2.2.1),(aA (t:=Tl) (x:=([]:(List Int))) .nil rfl rfl hn.2.2.2.2.1),trivial⟩) ⟨rfl,rfl,rfl,rfl,rfl,trivial⟩ λ_=>?_;refine mq ?_;refine xr ?_;refine xr ?_;refine xr ?_;refine aq ?_;refine aq ?_;refine aq (nt (aj (sr ?_)));refine mq ?_;refine jb (dZ rfl) ?_;refine nt (cn h (λh=>?_) (λh=>?_))
  .refine sr (mq ?_);refine cq ?_;refine aq (nt (rx ?_));refine bF (eg (t:=(.slice Tl)) (x:=([]:(List (List Int)))) 4 rfl .nil rfl rfl) ?_;cases h;exact rb
  .cases h
 .
  rw [hr] at h j;replace h:=tQ h;refine aN (Δ:=[]) (F:=_) (λ_ _ _=>ag rfl _) rfl rfl (bJ (N:=[(.tmp 13,.rep an a0),(.tmp 14,.rep Tl a1),(.const (.slice none 0 0),.eq (.slice none 0 0)),(.const (.slice none 0 0),.eq (.slice none 0 0)),(.const (.slice none 0 0),.eq (.slice none 0 0))]) (aS [.tmp 13,.tmp 14,.const (.slice none 0 0),.const (.slice none 0 0),.const (.slice none 0 0)] rfl rfl wa rfl j) λ_ _ _ hn=>⟨hn.1,hn.2.1,(aA (t:=Tl) (x:=([]:(List Int))) .nil rfl rfl hn.2.2.1),(aA (t:=Tl) (x:=([]:(List Int))) .nil rfl rfl hn.2.2.2.1),(aA (t:=Tl) (x:=([]:(List Int))) .nil rfl rfl hn.2.2.2.2.1),trivial⟩) ⟨rfl,rfl,rfl,rfl,rfl,trivial⟩ λz4=>?_;refine mq ?_;refine xr ?_;refine xr ?_;refine xr ?_;refine aq ?_;refine aq ?_;refine aq (nt (aj (sr ?_)));refine mq ?_;refine jb (dZ rfl) ?_;refine nt (cn h (λh=>?_) (λh=>?_))
  .refine sr (mq ?_);refine cq ?_;refine aq (nt (rx ?_));refine bF (eg (t:=(.slice Tl)) (x:=([]:(List (List Int)))) 4 rfl .nil rfl rfl) ?_;cases h;exact rb
  .refine sk (sr (cq (nt (sr ?_))));iterate 2 refine mq ?_
   obtain⟨r5,U,h⟩:=aa h;refine fr 1 ?_;refine fr 1 ?_;refine aN (Δ:=[_,_]) (F:=_) (λ_ _ _=>ag rfl _) rfl rfl (aS [.tmp 22,.tmp 23] rfl rfl CS rfl (nE k q3 z4.1 z4.2 r2.2.1 r5 U)) ⟨rfl,rfl,trivial⟩ λ_=>?_;refine aW rfl rfl rfl (bb rfl Gq Ji) trivial λb6=>?_;refine aJ rfl rfl (aE rfl G8 rfl rfl rfl) ⟨rfl,rfl,trivial⟩ ?_;refine eF (jD (t:=(.arr 7 Tr)) (x:=r5) [10] .rep ⟨rfl,trivial⟩) ?_;refine nt (aM (Z:=Value) (α:=(List (List Int))) (λz8 x7=>[(9,.eq z8)]) (λz8 x7=>[.sl z8 22 Tl x7,.inv z4.2 (bD k q3)]) h (λK h=>?_) (λz8 x7 h=>?_))
   .refine sr (fl eO ?_);refine fr 2 ?_;refine lo lR ?_;refine ol Bm ?_;obtain⟨x9,Q,h⟩:=aa h;refine jb (bp rfl Q) ?_;refine eH rfl ?_;refine nt (ai (iO (SE.nil 22 Tl) ?_));refine aL (λe c=>[(2,Pt b1),(9,.eq e),(10,.at (.arr 7 Tr) r5),(28,I x9),(29,I c.2)]) (λe c=>[.obj b1 26 (.rep an a0),.sl e 22 Tl c.1,.inv z4.2 (bD k q3)]) (eo k a0 r5 x9) k (.slice none 0 0) (([]:(List (List Int))),0) (λ_=>rfl) h (SE.fin [1,0,3] ⟨rfl,rfl,rfl,rfl,rfl,trivial⟩ rfl) (λn e c h=>?_);unfold eo at h;refine sr (jb (bN rfl) ?_);refine nt (aj (ci h (λh=>?_) (λh=>?_)))
    .refine sk (aj (ai (sr (mq ?_))));refine aq (nt ?_);refine cV ?_;refine dm ?_;refine dm ?_;obtain⟨M,y,h⟩:=aa h;refine db (cy (t:=Tr) rfl Jr iT y) ?_;refine da (aH rfl gr) ?_;refine ea 0 (aC rfl cx nW rfl) ?_;obtain⟨gw,l,h⟩:=aa h;refine db (vP (t:=Ti) rfl Bl cx (am l).1 (am l).2) ?_;obtain⟨s,E,h⟩:=aa h;refine da (yK (ay [.tmp 37] rfl rfl SB rfl (mM k (List.take (Int.toNat a0.1) M) s E))) ?_;refine da (bj (t:=Tl) [(.tmp 38,_)] [s] rfl rfl pM (.cons rfl .rep .nil) rfl rfl) ?_;refine df dQ ?_;obtain⟨Y,D,h⟩:=aa h;refine fr 1 ?_;refine eG rfl rfl rfl (cO rfl rfl pM (am D)) ⟨rfl,rfl,trivial⟩ λO=>?_;refine aq (aF (aO (tn (ab ?_))));obtain⟨J,u,h⟩:=aa h;refine jb (bp rfl u) ?_;refine mq (nl ?_);exact jz (O,(c.1++[s],J)) h [1,0,2]
    .refine xa ?_;exact jz (e,c.1) h [1,2]
   .refine sr (mq ?_);refine aq ?_;refine cq (nt (ax ?_));refine bF (jo [4,9,42] ⟨rfl,rfl,rfl,trivial⟩) ?_;cases h;exact rb
def iL(k:Nat)(a0:ae)(a1:(List Int))(a2:(List Int))(a3:(List Int)):Option ((Option ae)×(List Int)×Int):=
 (i9 k a0 ([]:(List Int)) a1 a2 a3).bind λr2=>
 fF r2.1 (if¬(r2.2.2=0) then(some (none,([]:(List Int)),r2.2.2)) else(none)) (λq3=>if¬(r2.2.2=0) then(some (none,([]:(List Int)),r2.2.2)) else((cg k q3 0).bind λr5=>
 if(r5.length:Int)=0 then(some (none,([]:(List Int)),9)) else(some (some q3,r5,0))))
theorem kJ(k:Nat)(a0:ae)(a1:(List Int))(a2:(List Int))(a3:(List Int))(r:(Option ae)×(List Int)×Int)(h:iL k a0 a1 a2 a3=some r):
 bR (dJ Tryz.prog) 42 [.rep an a0,.rep Tl a1,.rep Tl a2,.rep Tl a3] [] (λz:Nat×Nat=>(bM [K8 r.1 z.1,.rep (.slice (.int .u8)) r.2.1,I r.2.2],K7 r.1 λq=>qO q z.1 z.2 k)):=by
 unfold iL at h
 replace h:=bh h
 refine bR.of 34 Tryz.func42 rfl Tryz.ntmps42 rfl λS w0=>?_
 refine sr ?_
 refine bx λb1=>?_
 refine cq ?_
 refine cq ?_
 refine cq ?_
 refine nt ?_
 refine sr ?_
 refine lo gC ?_
 iterate 3 refine mq ?_
 obtain⟨r2,j,h⟩:=aa h
 have c:=jS k a0 ([]:(List Int)) a1 a2 a3 r2 j
 rcases hr:r2.1 with _ |q3
 .
  rw [hr] at h c;replace h:=tR h;refine aN (Δ:=[]) (F:=_) (λ_ _ _=>ag rfl _) rfl rfl (bJ (N:=[(.tmp 16,.rep an a0),(.const (.slice none 0 0),.eq (.slice none 0 0)),(.tmp 17,.rep Tl a1),(.tmp 18,.rep Tl a2),(.tmp 19,.rep Tl a3)]) (aS [.tmp 16,.const (.slice none 0 0),.tmp 17,.tmp 18,.tmp 19] rfl rfl wa rfl c) λ_ _ _ hn=>⟨hn.1,(aA (t:=Tl) (x:=([]:(List Int))) .nil rfl rfl hn.2.1),hn.2.2.1,hn.2.2.2.1,hn.2.2.2.2.1,trivial⟩) ⟨rfl,rfl,rfl,rfl,rfl,trivial⟩ λ_=>?_;refine mq ?_;refine xr ?_;refine xr ?_;refine xr ?_;refine aq ?_;refine aq ?_;refine aq (nt (aj (sr ?_)));refine mq ?_;refine jb (dZ rfl) ?_;refine nt (cn h (λh=>?_) (λh=>?_))
  .refine sr (mq ?_);refine cq ?_;refine cq ?_;refine aq (nt (rx ?_));refine bF (eg (t:=(.slice (.int .u8))) (x:=([]:(List Int))) 9 rfl .nil rfl rfl) ?_;cases h;exact aP (0,0) [.eq (.pointer none),_,_] 0 ⟨rfl,rfl,rfl,trivial⟩ rfl
  .cases h
 .
  rw [hr] at h c;replace h:=tQ h;refine aN (Δ:=[]) (F:=_) (λ_ _ _=>ag rfl _) rfl rfl (bJ (N:=[(.tmp 16,.rep an a0),(.const (.slice none 0 0),.eq (.slice none 0 0)),(.tmp 17,.rep Tl a1),(.tmp 18,.rep Tl a2),(.tmp 19,.rep Tl a3)]) (aS [.tmp 16,.const (.slice none 0 0),.tmp 17,.tmp 18,.tmp 19] rfl rfl wa rfl c) λ_ _ _ hn=>⟨hn.1,(aA (t:=Tl) (x:=([]:(List Int))) .nil rfl rfl hn.2.1),hn.2.2.1,hn.2.2.2.1,hn.2.2.2.2.1,trivial⟩) ⟨rfl,rfl,rfl,rfl,rfl,trivial⟩ λz4=>?_;refine mq ?_;refine xr ?_;refine xr ?_;refine xr ?_;refine aq ?_;refine aq ?_;refine aq (nt (aj (sr ?_)));refine mq ?_;refine jb (dZ rfl) ?_;refine nt (cn h (λh=>?_) (λh=>?_))
  .refine sr (mq ?_);refine cq ?_;refine cq ?_;refine aq (nt (rx ?_));refine bF (eg (t:=(.slice (.int .u8))) (x:=([]:(List Int))) 9 rfl .nil rfl rfl) ?_;cases h;exact aP (0,0) [.eq (.pointer none),_,_] 0 ⟨rfl,rfl,rfl,trivial⟩ rfl
  .refine sk (sr (mq ?_));obtain⟨r5,e,h⟩:=aa h;refine fr 1 ?_;refine fr 1 ?_;refine aN (Δ:=[_,_]) (F:=_) (λ_ _ _=>ag rfl _) rfl rfl (aS [.tmp 27,.const (.int .u8 (0))] rfl rfl P4 rfl (ii k q3 z4.1 z4.2 0 r5 e)) ⟨rfl,rfl,trivial⟩ λ_=>?_;refine aq (nt (aj (sr ?_)));refine mq ?_;refine ol xj ?_;refine jb (gx rfl) ?_;refine nt (ci h (λh=>?_) (λh=>?_))
   .refine sr (cq ?_);refine cq ?_;refine cq (nt (rx ?_));refine bF (eg (t:=(.slice (.int .u8))) (x:=([]:(List Int))) 9 rfl .nil rfl rfl) ?_;cases h;exact aP (0,0) [.eq (.pointer none),_,_] 0 ⟨rfl,rfl,rfl,trivial⟩ rfl
   .refine sk (sr ?_);iterate 2 refine mq ?_
    refine aq ?_;refine aq ?_;refine cq (nt (ax ?_));cases h;exact aP (z4.1,z4.2) [.eq (.pointer (some ⟨z4.1,0,none⟩)),_,_] 2 ⟨rfl,rfl,rfl,trivial⟩ rfl
def fX(k:Nat)(a1:Int)(r2:(Option ae)×(List Int)×Int)(q3:ae)(y7:(List Int)×Int):Nat->(Int×Int)->Option Int
 |0,_=>none
 |n+1,c=>
  if c.2 < (r2.2.1.length:Int) then((((aR r2.2.1 c.2).bind λr=>
  (kz k q3 r).bind λu=>
  (aR u a1).bind λl=>
  (aR l y7.2).bind λj=>
  if 0≤j then((ck (c.1+1)).bind λh=>
  some h) else(some c.1)):Option (Int)).bind λs=>
  (ck (c.2+1)).bind λe=>
  fX k a1 r2 q3 y7 n (s,e)) else(some c.1)
def fY(k:Nat)(a0:ae)(a1:Int)(r2:(Option ae)×(List Int)×Int)(q3:ae):Nat->((List Int)×Int)->Option (List Int)
 |0,_=>none
 |n+1,y7=>
  if y7.2 < a0.1 then(((((fX k a1 r2 q3 y7 k (0,0)):Option (Int)).bind λh=>
  (iK k h (r2.2.1.length:Int)).bind λc=>
  (cP (bW (length y7.1+length [c]))).bind λ_=>
  some (y7.1++[c])):Option ((List Int))).bind λx9=>
  (ck (y7.2+1)).bind λe=>
  fY k a0 a1 r2 q3 n (x9,e)) else(some y7.1)
def mV(k:Nat)(a0:ae)(a1:Int):Option ((List Int)×Int):=
 (iL k a0 ([]:(List Int)) ([]:(List Int)) [a1]).bind λr2=>
 fF r2.1 (if¬(r2.2.2=0) then(some (([]:(List Int)),r2.2.2)) else(none)) (λq3=>if¬(r2.2.2=0) then(some (([]:(List Int)),r2.2.2)) else(((fY k a0 a1 r2 q3 k (([]:(List Int)),0)):Option ((List Int))).bind λx5=>
 some (x5,0)))
theorem xX(k:Nat)(a0:ae)(a1:Int)(r:(List Int)×Int)(h:mV k a0 a1=some r):
 bR (dJ Tryz.prog) 14 [.rep an a0,I a1] [] (λ_:Unit=>(bM [.rep Tl r.1,I r.2],[])):=by
 unfold mV at h
 replace h:=bh h
 refine bR.of 56 Tryz.func14 rfl Tryz.ntmps14 rfl λS w0=>?_
 refine sr ?_
 refine bx λb1=>?_
 refine cq ?_
 refine cq ?_
 refine nt ?_
 refine sr ?_
 refine lo gC ?_
 refine mq ?_
 refine ja (bj (t:=Ti) [(.tmp 16,_)] [a1] rfl rfl dL (.cons rfl .int .nil) rfl rfl) ?_
 obtain⟨r2,V0,h⟩:=aa h
 have s:=kJ k a0 ([]:(List Int)) ([]:(List Int)) [a1] r2 V0
 rcases hr:r2.1 with _ |q3
 .
  rw [hr] at h s;replace h:=tR h;refine aN (Δ:=[]) (F:=_) (λ_ _ _=>ag rfl _) rfl rfl (bJ (N:=[(.tmp 15,.rep an a0),(.const (.slice none 0 0),.eq (.slice none 0 0)),(.const (.slice none 0 0),.eq (.slice none 0 0)),(.tmp 17,.rep Tl [a1])]) (aS [.tmp 15,.const (.slice none 0 0),.const (.slice none 0 0),.tmp 17] rfl rfl Aw rfl s) λ_ _ _ hn=>⟨hn.1,(aA (t:=Tl) (x:=([]:(List Int))) .nil rfl rfl hn.2.1),(aA (t:=Tl) (x:=([]:(List Int))) .nil rfl rfl hn.2.2.1),hn.2.2.2.1,trivial⟩) ⟨rfl,rfl,rfl,rfl,trivial⟩ λ_=>?_;refine mq ?_;refine xr ?_;refine xr ?_;refine xr ?_;refine aq ?_;refine aq ?_;refine aq (nt (aj (sr ?_)));refine mq ?_;refine jb (dZ rfl) ?_;refine nt (cn h (λh=>?_) (λh=>?_))
  .refine sr (mq ?_);refine cq ?_;refine aq (nt (rx ?_));refine bF (eg (t:=Tl) (x:=([]:(List Int))) 4 rfl .nil rfl rfl) ?_;cases h;exact rb
  .cases h
 .
  rw [hr] at h s;replace h:=tQ h;refine aN (Δ:=[]) (F:=_) (λ_ _ _=>ag rfl _) rfl rfl (bJ (N:=[(.tmp 15,.rep an a0),(.const (.slice none 0 0),.eq (.slice none 0 0)),(.const (.slice none 0 0),.eq (.slice none 0 0)),(.tmp 17,.rep Tl [a1])]) (aS [.tmp 15,.const (.slice none 0 0),.const (.slice none 0 0),.tmp 17] rfl rfl Aw rfl s) λ_ _ _ hn=>⟨hn.1,(aA (t:=Tl) (x:=([]:(List Int))) .nil rfl rfl hn.2.1),(aA (t:=Tl) (x:=([]:(List Int))) .nil rfl rfl hn.2.2.1),hn.2.2.2.1,trivial⟩) ⟨rfl,rfl,rfl,rfl,trivial⟩ λz4=>?_;refine mq ?_;refine xr ?_;refine xr ?_;refine xr ?_;refine aq ?_;refine aq ?_;refine aq (nt (aj (sr ?_)));refine mq ?_;refine jb (dZ rfl) ?_;refine nt (cn h (λh=>?_) (λh=>?_))
  .refine sr (mq ?_);refine cq ?_;refine aq (nt (rx ?_));refine bF (eg (t:=Tl) (x:=([]:(List Int))) 4 rfl .nil rfl rfl) ?_;cases h;exact rb
  .refine sk (sr (cq (nt ?_)));refine aM (Z:=Value) (α:=(List Int)) (λz6 x5=>[(9,.eq z6)]) (λz6 x5=>[.sl z6 3 Ti x5,.inv z4.2 (bD k q3)]) h (λK h=>?_) (λz6 x5 h=>?_)
   .refine sr (fl gr ?_);refine fr 2 ?_;refine lo cx ?_;refine eH rfl ?_;refine nt (ai (iO (SE.nil 3 Ti) ?_));refine aL (λz8 y7=>[(1,I a1),(6,.eq (.pointer (some ⟨z4.1,0,none⟩))),(7,.rep (.slice (.int .u8)) r2.2.1),(9,.eq z8),(26,I a0.1),(27,I y7.2)]) (λz8 y7=>[.obj z4.1 125 (aI q3 z4.2),.sl z8 3 Ti y7.1,.inv z4.2 (bD k q3)]) (fY k a0 a1 r2 q3) k (.slice none 0 0) (([]:(List Int)),0) (λ_=>rfl) h (SE.fin [2,0,3] ⟨rfl,rfl,rfl,rfl,rfl,rfl,trivial⟩ rfl) (λn z8 y7 h=>?_);unfold fY at h;refine sr (jb (bN rfl) ?_);refine nt (aj (ci h (λh=>?_) (λh=>?_)))
    .refine sk (aM (Z:=Value) (α:=(List Int)) (λe x9=>[(1,I a1),(6,.eq (.pointer (some ⟨z4.1,0,none⟩))),(7,.rep (.slice (.int .u8)) r2.2.1),(9,.eq e),(26,I a0.1),(27,I y7.2)]) (λe x9=>[.obj z4.1 125 (aI q3 z4.2),.sl e 3 Ti x9,.inv z4.2 (bD k q3)]) h (λK h=>?_) (λe x9 h=>?_))
     .refine ai (sr (mq ?_));refine aq (nt (sr ?_));refine cq (nt ?_);refine aM (Z:=Unit) (α:=Int) (λE l=>[(1,I a1),(6,.eq (.pointer (some ⟨z4.1,0,none⟩))),(7,.rep (.slice (.int .u8)) r2.2.1),(9,.eq z8),(11,I l),(26,I a0.1),(27,I y7.2)]) (λE l=>[.obj z4.1 125 (aI q3 z4.2),.sl z8 3 Ti y7.1,.inv z4.2 (bD k q3)]) h (λK h=>?_) (λE l h=>?_)
      .refine sr (mq ?_);refine ol xj ?_;refine eH rfl ?_;refine nt (ai (aL (λD c=>[(1,I a1),(6,.eq (.pointer (some ⟨z4.1,0,none⟩))),(7,.rep (.slice (.int .u8)) r2.2.1),(9,.eq z8),(10,I y7.2),(11,I c.1),(26,I a0.1),(27,I y7.2),(30,.rep (.slice (.int .u8)) r2.2.1),(31,I (r2.2.1.length:Int)),(32,I c.2)]) (λD c=>[.obj z4.1 125 (aI q3 z4.2),.sl z8 3 Ti y7.1,.inv z4.2 (bD k q3)]) (fX k a1 r2 q3 y7) k () (0,0) (λ_=>rfl) h (SE.fin [0,1,2] ⟨rfl,rfl,rfl,rfl,rfl,rfl,rfl,rfl,rfl,rfl,rfl,trivial⟩ rfl) (λn D c h=>?_)));unfold fX at h;refine sr (jb (bN rfl) ?_);refine nt (aj (ci h (λh=>?_) (λh=>?_)))
       .refine sk (aM (Z:=Unit) (α:=Int) (λy j=>[(1,I a1),(6,.eq (.pointer (some ⟨z4.1,0,none⟩))),(7,.rep (.slice (.int .u8)) r2.2.1),(9,.eq z8),(10,I y7.2),(11,I j),(26,I a0.1),(27,I y7.2),(30,.rep (.slice (.int .u8)) r2.2.1),(31,I (r2.2.1.length:Int)),(32,I c.2)]) (λy j=>[.obj z4.1 125 (aI q3 z4.2),.sl z8 3 Ti y7.1,.inv z4.2 (bD k q3)]) h (λK h=>?_) (λy j h=>?_))
        .refine ai (sr ?_);obtain⟨zz,X,h⟩:=aa h;refine jb (aX (t:=(.int .u8)) rfl xj oh X) ?_;refine ja (au (t:=(.int .u8)) rfl oh rfl) ?_;refine aq (nt (sr ?_));iterate 2 refine mq ?_
         obtain⟨VZ,mc,h⟩:=aa h;refine fr 2 ?_;refine fr 1 ?_;refine aN (Δ:=[_,_]) (F:=_) (λ_ _ _=>ag rfl _) rfl rfl (aS [.tmp 36,.tmp 37] rfl rfl CS rfl (nE k q3 z4.1 z4.2 zz VZ mc)) ⟨rfl,rfl,trivial⟩ λ_=>?_;refine mq ?_;obtain⟨V3,U,h⟩:=aa h;refine jb (jP (t:=Tr) rfl Jr iT rfl rfl (t7) U) ?_;refine mq ?_;obtain⟨V2,Q,h⟩:=aa h;refine jb (jP (t:=Ti) rfl Bl cx rfl rfl (λ_=>rfl) Q) ?_;refine jb (jt rfl) ?_;refine nt (ci h (λh=>?_) (λh=>?_))
         .refine ab (mq ?_);obtain⟨qt,O,h⟩:=aa h;refine jb (bp rfl O) ?_;refine aq (aF (bn ?_));exact jz ((),qt) h [0,2,1]
         .refine bf (bn ?_);exact jz ((),c.1) h [0,2,1]
        .refine ab ?_;obtain⟨pq,M,h⟩:=aa h;refine jb (bp rfl M) ?_;refine mq (nl ?_);exact jz ((),(j,pq)) h [0,1,2]
       .refine xa ?_;exact jz ((),c.1) h [0,1,2]
      .refine ab ?_;iterate 3 refine mq ?_
       refine ol xj ?_;obtain⟨u,gw,h⟩:=aa h;refine jb (ay [.tmp 48,.tmp 50] rfl rfl UZ rfl (uK k l (r2.2.1.length:Int) u gw)) ?_;refine ja (bj (t:=Ti) [(.tmp 51,_)] [u] rfl rfl dL (.cons rfl .int .nil) rfl rfl) ?_;obtain⟨V4,Y,h⟩:=aa h;refine fr 1 ?_;refine eG rfl rfl rfl (cO rfl rfl dL (am Y)) ⟨rfl,rfl,trivial⟩ λzM=>?_;refine aq (aF (bn ?_));exact jz (zM,y7.1++[u]) h [1,0,2]
     .refine ab ?_;obtain⟨mw,J,h⟩:=aa h;refine jb (bp rfl J) ?_;refine mq (nl ?_);exact jz (e,(x9,mw)) h [0,1,2]
    .refine xa ?_;exact jz (z8,y7.1) h [1,2]
   .refine sr (mq ?_);refine aq ?_;refine cq (nt (ax ?_));refine bF (jo [4,9,55] ⟨rfl,rfl,rfl,trivial⟩) ?_;cases h;exact rb
def fV(k:Nat)(a2:Int)(r1:(List (List Int)))(x5:Int):Nat->Int->Option (Except Int Unit)
 |0,_=>none
 |n+1,y6=>
  if y6 < x5 then((aR r1 y6).bind λx8=>
  (aR x8 a2).bind λx9=>
  if 0≤x9 then(some (.error y6)) else((ck (y6+1)).bind λc=>
  fV k a2 r1 x5 n c)) else(some (.ok ()))
def iz(k:Nat)(a0:ae)(a1:Int)(a2:Int):Option Int:=
 (kz k a0 a1).bind λr1=>
 bE (α:=Unit) ((ck ((a0.2.2.2.2.1.length:Int)+1)).bind λx5=>
 fV k a2 r1 x5 k 0) (some) λ_=>
 some (-1:Int)
theorem lB(k:Nat)(a0:ae)(c z_a0:Nat)(a1:Int)(a2:Int)(r:Int)(h:iz k a0 a1 a2=some r):
 bR (dJ Tryz.prog) 44 [Pt c,.eq (.int .u8 a1),I a2] [.obj c 125 (aI a0 z_a0),.inv z_a0 (bD k a0)] (λ_:Unit=>(bM [I r],[.obj c 125 (aI a0 z_a0),.inv z_a0 (bD k a0)])):=by
 unfold iz at h
 replace h:=bh h
 refine bR.of 30 Tryz.func44 rfl Tryz.ntmps44 rfl λS w0=>?_
 refine sr ?_
 refine cq ?_
 refine nt ?_
 refine sr ?_
 iterate 2 refine mq ?_
 obtain⟨r1,D,h⟩:=aa h
 have E:=nE k a0 c z_a0 a1 r1 D
 refine fr 1 ?_
 refine fr 1 ?_
 refine aN (Δ:=[_,_]) (F:=_) (λ_ _ _=>ag rfl _) rfl rfl (aS [.tmp 9,.tmp 10] rfl rfl CS rfl E) ⟨rfl,rfl,trivial⟩ λ_=>?_
 refine aW rfl rfl rfl (bb rfl Gq Ji) trivial λb2=>?_
 refine aJ rfl rfl (aE rfl G8 rfl rfl rfl) ⟨rfl,rfl,trivial⟩ ?_
 refine eF (jD (t:=(.arr 7 Tr)) (x:=r1) [7] .rep ⟨rfl,trivial⟩) ?_
 refine nt ?_
 refine dK (Z:=Unit) (α:=Unit) (λz4 x3=>[]) (λz4 x3=>[.obj c 125 (aI a0 z_a0),.inv z_a0 (bD k a0)]) (λe=>e=r) h (λe h=>Option.some.inj h) (λK hR h=>?_) (λz4 x3 h=>?_)
 .
  refine sr (mq ?_);refine ja (cR rfl) ?_;refine fl ia ?_;refine fl eO ?_;refine lo lR ?_;refine ol Bm ?_;obtain⟨x5,y,h⟩:=aa h;refine jb (bp rfl y) ?_;refine eH rfl ?_;refine nt (ai (aL (λz7 y6=>[(2,I a2),(7,.at (.arr 7 Tr) r1),(18,I x5),(19,I y6)]) (λz7 y6=>[.obj c 125 (aI a0 z_a0),.inv z_a0 (bD k a0)]) (fV k a2 r1 x5) k () 0 (λ_=>rfl) h (SE.fin [0,1] ⟨rfl,rfl,rfl,rfl,trivial⟩ rfl) (λn z7 y6 h=>?_)));unfold fV at h;refine sr (jb (bN rfl) ?_);refine nt (aj (ci h (λh=>?_) (λh=>?_)))
  .refine sk (aj (ai (sr (mq ?_))));refine aq (nt (sr ?_));iterate 2 refine mq ?_
   obtain⟨x8,u,h⟩:=aa h;refine jb (cy (t:=Tr) rfl Jr iT u) ?_;obtain⟨x9,s,h⟩:=aa h;refine jb (cy (t:=Ti) rfl Bl cx s) ?_;refine ja (au (t:=Ti) rfl cx rfl) ?_;refine jb (jt rfl) ?_;refine nt (ci h (λh=>?_) (λh=>?_))
   .refine sr (mq ?_);refine aq (nt (ax (br (ba (be ?_)))));obtain rfl:=hR _ h;exact aP () [_] 2 ⟨rfl,trivial⟩ rfl
   .refine bf (aO (tn (ab ?_)));obtain⟨l,j,h⟩:=aa h;refine jb (bp rfl j) ?_;refine mq (nl ?_);exact jz ((),l) h [0,1]
  .refine xa ?_;exact jz ((),()) h [0,1]
 .
  refine sr (cq (nt (ax ?_)));cases h;exact aP () [_] 2 ⟨rfl,trivial⟩ rfl
def kL(k:Nat)(a1:Int)(r3:(Option ae)×(List Int)×Int)(q4:ae):Nat->((List Int)×Int)->Option (List Int)
 |0,_=>none
 |n+1,y8=>
  if y8.2 < (r3.2.1.length:Int) then((((aR r3.2.1 y8.2).bind λh=>
  (iz k q4 h a1).bind λc=>
  if 0≤c then((cP (bW (length y8.1+length [c]))).bind λ_=>
  some (y8.1++[c])) else(some y8.1)):Option ((List Int))).bind λj=>
  (ck (y8.2+1)).bind λe=>
  kL k a1 r3 q4 n (j,e)) else(some y8.1)
def sJ(k:Nat)(a0:ae)(a1:Int):Option (fE×Int):=
 (iL k a0 [a1] ([]:(List Int)) ([]:(List Int))).bind λr3=>
 fF r3.1 (if¬(r3.2.2=0) then(some ((0,0),r3.2.2)) else(none)) (λq4=>if¬(r3.2.2=0) then(some ((0,0),r3.2.2)) else(((kL k a1 r3 q4 k (([]:(List Int)),0)):Option ((List Int))).bind λx6=>
 if(x6.length:Int)=0 then(some ((0,0),11)) else((lW k x6).bind λe=>
 (ou k x6).bind λc=>
 some ((e,c),0))))
theorem xY(k:Nat)(a0:ae)(a1:Int)(r:fE×Int)(h:sJ k a0 a1=some r):
 bR (dJ Tryz.prog) 15 [.rep an a0,I a1] [] (λ_:Unit=>(bM [.rep bV r.1,I r.2],[])):=by
 unfold sJ at h
 replace h:=bh h
 refine bR.of 51 Tryz.func15 rfl Tryz.ntmps15 rfl λS w0=>?_
 refine sr ?_
 refine bx λb1=>?_
 refine aW rfl rfl rfl (bb rfl Bo SY) trivial λb2=>?_
 refine cq ?_
 refine nt ?_
 refine sr ?_
 refine fr 1 ?_
 refine lo gC ?_
 refine mq ?_
 refine ja (bj (t:=Ti) [(.tmp 15,_)] [a1] rfl rfl dL (.cons rfl .int .nil) rfl rfl) ?_
 obtain⟨r3,Y,h⟩:=aa h
 have s:=kJ k a0 [a1] ([]:(List Int)) ([]:(List Int)) r3 Y
 rcases hr:r3.1 with _ |q4
 .
  rw [hr] at h s;replace h:=tR h;refine aN (Δ:=[]) (F:=_) (λ_ _ _=>ag rfl _) rfl rfl (bJ (N:=[(.tmp 14,.rep an a0),(.tmp 16,.rep Tl [a1]),(.const (.slice none 0 0),.eq (.slice none 0 0)),(.const (.slice none 0 0),.eq (.slice none 0 0))]) (aS [.tmp 14,.tmp 16,.const (.slice none 0 0),.const (.slice none 0 0)] rfl rfl Aw rfl s) λ_ _ _ hn=>⟨hn.1,hn.2.1,(aA (t:=Tl) (x:=([]:(List Int))) .nil rfl rfl hn.2.2.1),(aA (t:=Tl) (x:=([]:(List Int))) .nil rfl rfl hn.2.2.2.1),trivial⟩) ⟨rfl,rfl,rfl,rfl,trivial⟩ λ_=>?_;refine mq ?_;refine xr ?_;refine xr ?_;refine xr ?_;refine aq ?_;refine aq ?_;refine aq (nt (aj (sr ?_)));refine mq ?_;refine jb (dZ rfl) ?_;refine nt (cn h (λh=>?_) (λh=>?_))
  .refine sr (cf rfl (eh [] rfl HG Bo AW (jO trivial) rfl) trivial ?_);refine mq ?_;refine fr 1 ?_;refine aJ rfl rfl (aE rfl vO trivial rfl rfl) ⟨rfl,rfl,trivial⟩ ?_;refine aq (nt (rx ?_));refine bF (fq (a:=.agg (.pair (I 0) (I 0))) (a':=.rep bV (0,0)) (gY (.agg (.pair .int .int)))) ?_;cases h;exact aP () [.rep bV (0,0),_] 0 ⟨⟨_,_,_,_,_,rfl,(.head _),vO,(t7),rfl⟩,rfl,trivial⟩ rfl
  .cases h
 .
  rw [hr] at h s;replace h:=tQ h;refine aN (Δ:=[]) (F:=_) (λ_ _ _=>ag rfl _) rfl rfl (bJ (N:=[(.tmp 14,.rep an a0),(.tmp 16,.rep Tl [a1]),(.const (.slice none 0 0),.eq (.slice none 0 0)),(.const (.slice none 0 0),.eq (.slice none 0 0))]) (aS [.tmp 14,.tmp 16,.const (.slice none 0 0),.const (.slice none 0 0)] rfl rfl Aw rfl s) λ_ _ _ hn=>⟨hn.1,hn.2.1,(aA (t:=Tl) (x:=([]:(List Int))) .nil rfl rfl hn.2.2.1),(aA (t:=Tl) (x:=([]:(List Int))) .nil rfl rfl hn.2.2.2.1),trivial⟩) ⟨rfl,rfl,rfl,rfl,trivial⟩ λz5=>?_;refine mq ?_;refine xr ?_;refine xr ?_;refine xr ?_;refine aq ?_;refine aq ?_;refine aq (nt (aj (sr ?_)));refine mq ?_;refine jb (dZ rfl) ?_;refine nt (cn h (λh=>?_) (λh=>?_))
  .refine sr (cf rfl (eh [] rfl HG Bo AW (jO trivial) rfl) trivial ?_);refine mq ?_;refine fr 3 ?_;refine aJ rfl rfl (aE rfl vO trivial rfl rfl) ⟨rfl,rfl,trivial⟩ ?_;refine aq (nt (rx ?_));refine bF (fq (a:=.agg (.pair (I 0) (I 0))) (a':=.rep bV (0,0)) (gY (.agg (.pair .int .int)))) ?_;cases h;exact aP () [.rep bV (0,0),_] 0 ⟨⟨_,_,_,_,_,rfl,(.head _),vO,(t7),rfl⟩,rfl,trivial⟩ rfl
  .refine sk (sr (cq (nt ?_)));refine aM (Z:=Value) (α:=(List Int)) (λz7 x6=>[(4,Pt b2),(9,.eq z7)]) (λz7 x6=>[.obj b2 39 (.agg (.pair (I 0) (I 0))),.sl z7 3 Ti x6,.inv z5.2 (bD k q4)]) h (λK h=>?_) (λz7 x6 h=>?_)
   .refine sr (mq ?_);refine ol xj ?_;refine eH rfl ?_;refine nt (ai (iO (SE.nil 3 Ti) ?_));refine aL (λz9 y8=>[(1,I a1),(4,Pt b2),(6,.eq (.pointer (some ⟨z5.1,0,none⟩))),(9,.eq z9),(25,.rep (.slice (.int .u8)) r3.2.1),(26,I (r3.2.1.length:Int)),(27,I y8.2)]) (λz9 y8=>[.obj b2 39 (.agg (.pair (I 0) (I 0))),.obj z5.1 125 (aI q4 z5.2),.sl z9 3 Ti y8.1,.inv z5.2 (bD k q4)]) (kL k a1 r3 q4) k (.slice none 0 0) (([]:(List Int)),0) (λ_=>rfl) h (SE.fin [4,1,0,2] ⟨rfl,rfl,rfl,rfl,rfl,rfl,rfl,trivial⟩ rfl) (λn z9 y8 h=>?_);unfold kL at h;refine sr (jb (bN rfl) ?_);refine nt (aj (ci h (λh=>?_) (λh=>?_)))
    .refine sk (aM (Z:=Value) (α:=(List Int)) (λc e=>[(1,I a1),(4,Pt b2),(6,.eq (.pointer (some ⟨z5.1,0,none⟩))),(9,.eq c),(25,.rep (.slice (.int .u8)) r3.2.1),(26,I (r3.2.1.length:Int)),(27,I y8.2)]) (λc e=>[.obj b2 39 (.agg (.pair (I 0) (I 0))),.obj z5.1 125 (aI q4 z5.2),.sl c 3 Ti e,.inv z5.2 (bD k q4)]) h (λK h=>?_) (λc e h=>?_))
     .refine ai (sr ?_);obtain⟨U,D,h⟩:=aa h;refine jb (aX (t:=(.int .u8)) rfl xj oh D) ?_;refine ja (au (t:=(.int .u8)) rfl oh rfl) ?_;refine aq (nt (sr ?_));iterate 3 refine mq ?_
      obtain⟨u,O,h⟩:=aa h;refine fr 3 ?_;refine fr 2 ?_;refine aN (Δ:=[_,_]) (F:=_) (λ_ _ _=>ag rfl _) rfl rfl (aS [.tmp 31,.tmp 32,.tmp 33] rfl rfl SA rfl (lB k q4 z5.1 z5.2 U a1 u O)) ⟨rfl,rfl,rfl,trivial⟩ λ_=>?_;refine aq (nt (sr ?_));refine mq ?_;refine jb (jt rfl) ?_;refine nt (ci h (λh=>?_) (λh=>?_))
      .refine ab ?_;iterate 2 refine mq ?_
       refine ja (bj (t:=Ti) [(.tmp 38,_)] [u] rfl rfl dL (.cons rfl .int .nil) rfl rfl) ?_;obtain⟨gw,E,h⟩:=aa h;refine fr 3 ?_;refine eG rfl rfl rfl (cO rfl rfl dL (am E)) ⟨rfl,rfl,trivial⟩ λX=>?_;refine aq (aF (bn ?_));exact jz (X,y8.1++[u]) h [3,1,0,2]
      .refine bf (bn ?_);exact jz (z9,y8.1) h [2,0,3,1]
     .refine ab ?_;obtain⟨Q,y,h⟩:=aa h;refine jb (bp rfl y) ?_;refine mq (nl ?_);exact jz (c,(e,Q)) h [0,1,2,3]
    .refine xa ?_;exact jz (z9,y8.1) h [0,2,3]
   .refine aj (sr (mq ?_));refine fr 1 ?_;refine ka (mP rfl rfl ie) ?_;refine jb (gx rfl) ?_;refine nt (ci h (λh=>?_) (λh=>?_))
    .refine sr (cf rfl (eh [] rfl HG Bo AW (jO trivial) rfl) trivial ?_);refine fr 1 ?_;refine aJ rfl rfl (aE rfl vO trivial rfl rfl) ⟨rfl,rfl,trivial⟩ ?_;refine cq (nt (rx ?_));refine bF (fq (a:=.agg (.pair (I 0) (I 0))) (a':=.rep bV (0,0)) (gY (.agg (.pair .int .int)))) ?_;cases h;exact aP () [.rep bV (0,0),_] 0 ⟨⟨_,_,_,_,_,rfl,(.head _),vO,(t7),rfl⟩,rfl,trivial⟩ rfl
    .refine sk (sr (mq ?_));obtain⟨l,M,h⟩:=aa h;refine ka (jE (N:=[(.tmp 46,.eq z7)]) (ay [.tmp 46] rfl rfl Sz rfl (ot k x6 l M)) (λ_ _ _ hv hn=>⟨(lend hn.1 hv),trivial⟩) (λ_=>⟨rfl,oQ⟩)) ?_;refine mq ?_;obtain⟨j,J,h⟩:=aa h;refine ka (jE (N:=[(.tmp 48,.eq z7)]) (ay [.tmp 48] rfl rfl UY rfl (uk k x6 j J)) (λ_ _ _ hv hn=>⟨(lend hn.1 hv),trivial⟩) (λ_=>⟨rfl,oQ⟩)) ?_;refine jb (eh [(0,.tmp 47,_),(1,.tmp 49,_)] rfl HG Bo AW (jO ⟨rfl,rfl,trivial⟩) rfl) ?_;refine fr 1 ?_;refine aJ rfl rfl (aE rfl vO trivial rfl rfl) ⟨rfl,rfl,trivial⟩ ?_;refine cq (nt (ax ?_));refine bF (fq (a:=.agg (.pair (I l) (I j))) (a':=.rep bV (l,j)) (gY (.agg (.pair .int .int)))) ?_;cases h;exact aP () [.rep bV (l,j),_] 0 ⟨⟨_,_,_,_,_,rfl,(.head _),vO,(t7),rfl⟩,rfl,trivial⟩ rfl
def gz(k:Nat)(r2:(List (List Int)))(y6:Int×Int×(List (eQ×eQ))):Nat->Int->Option Int
 |0,_=>none
 |n+1,c=>
  ((if 0 < c then((ck (c - 1)).bind λl=>
  (aR r2 l).bind λj=>
  (aR j y6.1).bind λh=>
  some (decide (0≤h))) else(some false)):Option (Bool)).bind λr=>
  if r=true then((ck (c - 1)).bind λe=>
  gz k r2 y6 n e) else(some c)
def gA(k:Nat)(a0:ae)(r2:(List (List Int))):Nat->(Int×Int×(List (eQ×eQ)))->Option (List (fE×fE))
 |0,_=>none
 |n+1,y6=>
  bE (α:=Int×Int×(List (eQ×eQ))) (((gz k r2 y6 k y6.2.1):Option (Int)).bind λc=>
  if c=0 then((cP (zo (y6.1,y6.2.1))).bind λ_=>
  some (.error (Ce y6.2.2 (y6.1,y6.2.1) ((-1:Int),0)))) else((ck (c - 1)).bind λr=>
  (aR r2 r).bind λl=>
  (ck (c - 1)).bind λj=>
  (dA k a0 l y6.1 j).bind λh=>
  (ck (c - 1)).bind λe=>
  (cP (zo (y6.1,y6.2.1))).bind λ_=>
  some (.ok (h,e,Ce y6.2.2 (y6.1,y6.2.1) (h,e))))) (some) λx8=>
  gA k a0 r2 n (x8.1,x8.2.1,x8.2.2)
def lD(k:Nat)(a0:ae)(a1:Int)(a2:fE):Option (List (fE×fE)):=
 (kz k a0 a1).bind λr2=>
 gA k a0 r2 k (a2.1,a2.2,([]:List (eQ×eQ)))
theorem rA(k:Nat)(a0:ae)(c z_a0:Nat)(a1:Int)(a2:fE)(r:(List (fE×fE)))(h:lD k a0 a1 a2=some r):
 bR (dJ Tryz.prog) 80 [Pt c,.eq (.int .u8 a1),.rep bV a2] [.obj c 125 (aI a0 z_a0),.inv z_a0 (bD k a0)] (λz:Nat=>(bM [.eq (.map (some z))],[.inv z (tH r),.obj c 125 (aI a0 z_a0),.inv z_a0 (bD k a0)])):=by
 unfold lD at h
 replace h:=bh h
 refine bR.of 56 Tryz.func80 rfl Tryz.ntmps80 rfl λS w0=>?_
 refine sr ?_
 refine bx λb1=>?_
 refine cq ?_
 refine nt ?_
 refine sr ?_
 iterate 2 refine mq ?_
 obtain⟨r2,Wm,h⟩:=aa h
 have Wn:=nE k a0 c z_a0 a1 r2 Wm
 refine fr 2 ?_
 refine fr 2 ?_
 refine aN (Δ:=[_,_]) (F:=_) (λ_ _ _=>ag rfl _) rfl rfl (aS [.tmp 12,.tmp 13] rfl rfl CS rfl Wn) ⟨rfl,rfl,trivial⟩ λ_=>?_
 refine aW rfl rfl rfl (bb rfl Gq Ji) trivial λb3=>?_
 refine aJ rfl rfl (aE rfl G8 rfl rfl rfl) ⟨rfl,rfl,trivial⟩ ?_
 refine eF (jD (t:=(.arr 7 Tr)) (x:=r2) [7] .rep ⟨rfl,trivial⟩) ?_
 refine nt ?_
 refine sr ?_
 refine aW rfl rfl rfl (wL rfl) trivial λz4=>?_
 refine eF (td (tH []) KH) ?_
 refine aq ?_
 refine nt ?_
 refine sr ?_
 refine aW rfl rfl rfl (bb rfl tp AX) trivial λb5=>?_
 refine nt ?_
 refine sr ?_
 refine fl yo ?_
 refine aJ rfl rfl (aE rfl cx rfl rfl rfl) ⟨rfl,rfl,trivial⟩ ?_
 refine nt ?_
 refine ai ?_
 refine cE 4 rfl ?_
 refine iO (fq (a:=.rep bV a2) (a':=.agg (.pair (I a2.1) (I a2.2))) (AE.trans EL (AE.agg (AE.trans Bc (AE.pair AE.int AE.int))))) ?_
 refine aL (λz7 y6=>[(0,Pt c),(5,Pt b1),(7,.at (.arr 7 Tr) r2),(8,.eq (.map (some z4))),(9,Pt b5)]) (λz7 y6=>[.obj c 125 (aI a0 z_a0),.obj b1 131 (.agg (.pair (I y6.1) (I y6.2.1))),.obj b5 131 (.agg (.pair (I (-1:Int)) (I 0))),.inv z_a0 (bD k a0),.inv z4 (tH y6.2.2)]) (gA k a0 r2) k () (a2.1,a2.2,([]:List (eQ×eQ))) (λ_=>rfl) h (SE.fin [3,0,1,4,2] ⟨rfl,rfl,rfl,rfl,rfl,trivial⟩ rfl) (λn z7 y6 h=>?_)
 unfold gA at h
 refine JU (Z:=Unit) (α:=Int×Int×(List (eQ×eQ))) (λz9 x8=>[(0,Pt c),(5,Pt b1),(7,.at (.arr 7 Tr) r2),(8,.eq (.map (some z4))),(9,Pt b5)]) (λz9 x8=>[.obj c 125 (aI a0 z_a0),.obj b1 131 (.agg (.pair (I x8.1) (I x8.2.1))),.obj b5 131 (.agg (.pair (I (-1:Int)) (I 0))),.inv z_a0 (bD k a0),.inv z4 (tH x8.2.2)]) (λe=>e=r) h (λe h=>Option.some.inj h) (λK hR h=>?_) (λz9 x8 h=>?_)
 .
  refine ai (sr (fl MA ?_));refine fr 1 ?_;refine lo cx ?_;refine aq (nt ?_);refine aM (Z:=Unit) (α:=Int) (λO D=>[(0,Pt c),(5,Pt b1),(7,.at (.arr 7 Tr) r2),(8,.eq (.map (some z4))),(9,Pt b5),(10,I D)]) (λO D=>[.obj c 125 (aI a0 z_a0),.obj b1 131 (.agg (.pair (I y6.1) (I y6.2.1))),.obj b5 131 (.agg (.pair (I (-1:Int)) (I 0))),.inv z_a0 (bD k a0),.inv z4 (tH y6.2.2)]) h (λK h=>?_) (λO D h=>?_)
  .refine ai (aL (λM s=>[(0,Pt c),(5,Pt b1),(7,.at (.arr 7 Tr) r2),(8,.eq (.map (some z4))),(9,Pt b5),(10,I s)]) (λM s=>[.obj c 125 (aI a0 z_a0),.obj b1 131 (.agg (.pair (I y6.1) (I y6.2.1))),.obj b5 131 (.agg (.pair (I (-1:Int)) (I 0))),.inv z_a0 (bD k a0),.inv z4 (tH y6.2.2)]) (gz k r2 y6) k () y6.2.1 (λ_=>rfl) h (SE.fin [1,0,2,3,4] ⟨rfl,rfl,rfl,rfl,rfl,rfl,trivial⟩ rfl) (λn M s h=>?_));unfold gz at h;refine aj (aM (Z:=Unit) (α:=Bool) (λJ y=>[(0,Pt c),(5,Pt b1),(7,.at (.arr 7 Tr) r2),(8,.eq (.map (some z4))),(9,Pt b5),(10,I s),(30,.eq (.bool y))]) (λJ y=>[.obj c 125 (aI a0 z_a0),.obj b1 131 (.agg (.pair (I y6.1) (I y6.2.1))),.obj b5 131 (.agg (.pair (I (-1:Int)) (I 0))),.inv z_a0 (bD k a0),.inv z4 (tH y6.2.2)]) h (λK h=>?_) (λJ y h=>?_))
   .refine cV ?_;refine dm ?_;refine db (kB rfl) ?_;refine nL rfl rfl rfl (aV rfl) ⟨rfl,trivial⟩ (λhb=>?_) (λhb=>?_)
    .replace h:=eL (va hb) h;refine bg rfl rfl rfl rfl rfl (aV rfl) ⟨rfl,rfl,trivial⟩ ?_;obtain⟨Wy,V0,h⟩:=aa h;refine bg rfl rfl rfl rfl rfl (eM rfl V0) ⟨rfl,rfl,rfl,trivial⟩ ?_;refine bg rfl rfl rfl rfl rfl (aH rfl yo) ⟨rfl,rfl,trivial⟩ ?_;refine kS 1 rfl rfl rfl rfl rfl rfl (aC rfl cx nW rfl) ⟨rfl,rfl,trivial⟩ ?_;obtain⟨Wx,VZ,h⟩:=aa h;refine bg rfl rfl rfl rfl rfl (cy (t:=Tr) rfl Jr iT VZ) ⟨rfl,rfl,rfl,trivial⟩ ?_;refine df dQ ?_;obtain⟨V8,zM,h⟩:=aa h;refine gb (cy (t:=Ti) rfl Bl cx zM) ?_;refine ga (au (t:=Ti) rfl cx rfl) ?_;refine gb (jt rfl) ?_;refine pt (nl ?_);exact jz ((),decide (0≤V8)) h [0,1,2,3,4]
    .replace h:=cY (vb hb) h;iterate 5 refine dg ?_
     refine df dQ ?_;iterate 3 refine gn ?_
     refine pf (nl ?_);exact jz ((),false) h [0,1,2,3,4]
   .refine cv h (λh=>?_) (λh=>?_)
    .refine sk (ai (ab (mq ?_)));obtain⟨V7,zz,h⟩:=aa h;refine jb (eM rfl zz) ?_;refine aq (aF (bn ?_));exact jz ((),V7) h [0,1,2,3,4]
    .refine xa ?_;exact jz ((),s) h [0,1,2,3,4]
  .refine aj (sr (mq ?_));refine jb (gx rfl) ?_;refine nt (ci h (λh=>?_) (λh=>?_))
   .refine sr (mq ?_);refine fr 1 ?_;refine lo jN ?_;refine fr 2 ?_;refine lo jN ?_;refine eF (eg (t:=bV) (x:=(y6.1,y6.2.1)) 36 rfl (.agg (.pair .int .int)) trivial rfl) ?_;obtain⟨WQ,V3,h⟩:=aa h;refine eF (eg (t:=bV) (x:=((-1:Int),0)) 37 rfl (.agg (.pair .int .int)) trivial rfl) ?_;refine fr 4 ?_;refine aJ rfl rfl (ri (K:=ll) (V:=ll) (t:=(y6.1,y6.2.1)) (n:=((-1:Int),0)) (l:=y6.2.2) (λ_ _ _ h=>nj h) rfl FX mI (λ_ _ _ h=>nj h) (qT (am V3)) (qS _) qU) ⟨rfl,rfl,rfl,trivial⟩ ?_;refine nt (sr (mq ?_));refine aq (nt (rx (br (ba ?_))));refine bF (SE.fin (Γ':=[(6,_)]) [0,3,4,1,2] ⟨rfl,trivial⟩ rfl) ?_;obtain rfl:=hR _ h;exact aP z4 [.eq (.map (some z4))] 3 ⟨rfl,trivial⟩ rfl
   .refine sk (aj (o5 ?_));refine bK rfl rfl rfl (aV rfl) ⟨rfl,trivial⟩ ?_;refine bK rfl rfl rfl (aV rfl) ⟨rfl,trivial⟩ ?_;obtain⟨Wv,qt,h⟩:=aa h;refine bK rfl rfl rfl (eM rfl qt) ⟨rfl,rfl,trivial⟩ ?_;obtain⟨V6,pq,h⟩:=aa h;refine bK rfl rfl rfl (cy (t:=Tr) rfl Jr iT pq) ⟨rfl,rfl,trivial⟩ ?_;refine bK rfl rfl rfl (au (t:=Tr) rfl iT rfl) ⟨rfl,trivial⟩ ?_;refine bK rfl rfl rfl (aH rfl yo) ⟨rfl,trivial⟩ ?_;refine gX 1 rfl rfl rfl rfl (aC rfl cx nW rfl) ⟨rfl,trivial⟩ ?_;refine bK rfl rfl rfl (aV rfl) ⟨rfl,trivial⟩ ?_;obtain⟨V5,mw,h⟩:=aa h;refine bK rfl rfl rfl (eM rfl mw) ⟨rfl,rfl,trivial⟩ ?_;obtain⟨j,V4,h⟩:=aa h;refine gX 0 rfl rfl rfl rfl (ay [.tmp 39,.tmp 43,.tmp 45,.tmp 47] rfl rfl Oj rfl (nX k a0 c z_a0 V6 y6.1 V5 j V4)) ⟨rfl,rfl,rfl,rfl,trivial⟩ ?_;refine bK rfl rfl rfl (aV rfl) ⟨rfl,trivial⟩ ?_;obtain⟨u,mc,h⟩:=aa h;refine bK rfl rfl rfl (eM rfl mc) ⟨rfl,rfl,trivial⟩ ?_;refine bK rfl rfl rfl (eh [(0,.tmp 48,_),(1,.tmp 50,_)] rfl HH tp C3 (jO ⟨rfl,rfl,trivial⟩) rfl) ⟨rfl,rfl,trivial⟩ ?_;refine NJ (Pm 131 (.agg (.pair (I 0) (I 0)))) (λ_=>rfl) rfl rfl rfl (bb rfl tp AX) trivial ?_;refine tl 14 [true,true,true,true,true,true,true,true,true,true,true,true,true,true] [] [] [] rfl (by kernel_rfl) (by kernel_rfl) (by kernel_rfl) dQ (λvs hv hB=>?_);obtain⟨w0,WO,rfl,Wj⟩:=av hv;obtain⟨w1,WN,rfl,Wi⟩:=av Wj;obtain⟨w2,WM,rfl,Wh⟩:=av Wi;obtain⟨w3,WL,rfl,Wg⟩:=av Wh;obtain⟨w4,WJ,rfl,We⟩:=av Wg;obtain⟨w5,WI,rfl,Wc⟩:=av We;obtain⟨w6,WH,rfl,Wb⟩:=av Wc;obtain⟨w7,WG,rfl,Wa⟩:=av Wb;obtain⟨w8,WE,rfl,V9⟩:=av Wa;obtain⟨w9,Wu,rfl,gw⟩:=av V9;obtain⟨WC,Wt,rfl,Y⟩:=av gw;obtain⟨WB,Ws,rfl,X⟩:=av Y;obtain⟨WA,Wq,rfl,U⟩:=av X;obtain⟨Wz,Wp,rfl,Q⟩:=av U;obtain rfl:=pu Q;obtain⟨E,rfl⟩:=Pl hB.2.2.2.2.2.2.2.2.2.2.2.2.2.1;refine⟨[0,1,2,3,4,5],[.obj c 125 (aI a0 z_a0),.obj b1 131 (.agg (.pair (I y6.1) (I y6.2.1))),.obj b5 131 (.agg (.pair (I (-1:Int)) (I 0))),.inv z_a0 (bD k a0),.inv z4 (tH y6.2.2),.obj E 131 (.agg (.pair (I 0) (I 0)))],by kernel_rfl,by decide,?_⟩;refine rV 5 rfl ?_;refine te rfl rfl (aE rfl jN trivial rfl rfl) ⟨rfl,rfl,trivial⟩ (by kernel_rfl) ?_;refine yN ?_;refine bF (SE.fin (Γ':=[(0,Pt c),(5,Pt b1),(7,.at (.arr 7 Tr) r2),(8,.eq (.map (some z4))),(9,Pt b5),(11,Pt E)]) (Δ':=[.obj E 131 (.agg (.pair (I j) (I u))),.obj c 125 (aI a0 z_a0),.obj b1 131 (.agg (.pair (I y6.1) (I y6.2.1))),.obj b5 131 (.agg (.pair (I (-1:Int)) (I 0))),.inv z_a0 (bD k a0),.inv z4 (tH y6.2.2)]) [0,1,2,3,4,5] ⟨rfl,rfl,rfl,rfl,rfl,rfl,trivial⟩ rfl) ?_;refine tn (sr (mq ?_));refine fr 2 ?_;refine lo jN ?_;refine fr 1 ?_;refine lo jN ?_;refine eF (eg (t:=bV) (x:=(y6.1,y6.2.1)) 53 rfl (.agg (.pair .int .int)) trivial rfl) ?_;obtain⟨WP,V2,h⟩:=aa h;refine eF (eg (t:=bV) (x:=(j,u)) 54 rfl (.agg (.pair .int .int)) trivial rfl) ?_;refine fr 5 ?_;refine aJ rfl rfl (ri (K:=ll) (V:=ll) (t:=(y6.1,y6.2.1)) (n:=(j,u)) (l:=y6.2.2) (λ_ _ _ h=>nj h) rfl FX mI (λ_ _ _ h=>nj h) (qT (am V2)) (qS _) qU) ⟨rfl,rfl,rfl,trivial⟩ ?_
    refine nt (ab (fr 1 ?_));refine lo jN ?_;refine fr 2 ?_;refine aJ rfl rfl (aE rfl jN trivial rfl rfl) ⟨rfl,rfl,trivial⟩ ?_;refine aF (bn ?_);exact jz ((),(j,u,Ce y6.2.2 (y6.1,y6.2.1) (j,u))) h [3,0,4,5,2]
 .
  refine ap ?_;exact jz ((),(x8.1,x8.2.1,x8.2.2)) h [0,1,2,3,4]
def kM(k:Nat)(r7:(List (fE×fE))):Nat->(Int×Int×(List Int))->Option (List Int)
 |0,_=>none
 |n+1,c=>
  (cP (zo (c.1,c.2.1))).bind λ_=>
  if¬((nA r7 (c.1,c.2.1) (0,0))=((-1:Int),0)) then((cP (zo (c.1,c.2.1))).bind λ_=>
  (cP (bW (length c.2.2+length [(nA r7 (c.1,c.2.1) (0,0)).1]))).bind λ_=>
  (cP (zo (c.1,c.2.1))).bind λ_=>
  kM k r7 n ((nA r7 (c.1,c.2.1) (0,0)).1,(nA r7 (c.1,c.2.1) (0,0)).2,c.2.2++[(nA r7 (c.1,c.2.1) (0,0)).1])) else(some c.2.2)
def sK(k:Nat)(a0:ae)(a1:(List Int))(a2:Int):Option ((List Int)×Int):=
 (i9 k a0 a1 [a2] ([]:(List Int)) ([]:(List Int))).bind λr2=>
 fF r2.1 (if¬(r2.2.2=0) then(some (([]:(List Int)),r2.2.2)) else(none)) (λq3=>if¬(r2.2.2=0) then(some (([]:(List Int)),r2.2.2)) else((iz k q3 r2.2.1 a2).bind λr5=>
 if r5 < 0 then(some (([]:(List Int)),11)) else((lD k q3 r2.2.1 (a2,r5)).bind λr7=>
 ((kM k r7 k (a2,r5,[a2])):Option ((List Int))).bind λc=>
 (km k c).bind λe=>
 some (e,0))))
theorem ya(k:Nat)(a0:ae)(a1:(List Int))(a2:Int)(r:(List Int)×Int)(h:sK k a0 a1 a2=some r):
 bR (dJ Tryz.prog) 48 [.rep an a0,.rep Tl a1,I a2] [] (λ_:Unit=>(bM [.rep Tl r.1,I r.2],[])):=by
 unfold sK at h
 replace h:=bh h
 refine bR.of 64 Tryz.func48 rfl Tryz.ntmps48 rfl λS w0=>?_
 refine sr ?_
 refine bx λb1=>?_
 refine cq ?_
 refine cq ?_
 refine nt ?_
 refine sr ?_
 refine lo gC ?_
 iterate 2 refine mq ?_
 refine ja (bj (t:=Ti) [(.tmp 19,_)] [a2] rfl rfl dL (.cons rfl .int .nil) rfl rfl) ?_
 obtain⟨r2,Y,h⟩:=aa h
 have u:=jS k a0 a1 [a2] ([]:(List Int)) ([]:(List Int)) r2 Y
 rcases hr:r2.1 with _ |q3
 .
  rw [hr] at h u;replace h:=tR h;refine aN (Δ:=[]) (F:=_) (λ_ _ _=>ag rfl _) rfl rfl (bJ (N:=[(.tmp 17,.rep an a0),(.tmp 18,.rep Tl a1),(.tmp 20,.rep Tl [a2]),(.const (.slice none 0 0),.eq (.slice none 0 0)),(.const (.slice none 0 0),.eq (.slice none 0 0))]) (aS [.tmp 17,.tmp 18,.tmp 20,.const (.slice none 0 0),.const (.slice none 0 0)] rfl rfl wa rfl u) λ_ _ _ hn=>⟨hn.1,hn.2.1,hn.2.2.1,(aA (t:=Tl) (x:=([]:(List Int))) .nil rfl rfl hn.2.2.2.1),(aA (t:=Tl) (x:=([]:(List Int))) .nil rfl rfl hn.2.2.2.2.1),trivial⟩) ⟨rfl,rfl,rfl,rfl,rfl,trivial⟩ λ_=>?_;refine mq ?_;refine xr ?_;refine xr ?_;refine xr ?_;refine aq ?_;refine aq ?_;refine aq (nt (aj (sr ?_)));refine mq ?_;refine jb (dZ rfl) ?_;refine nt (cn h (λh=>?_) (λh=>?_))
  .refine sr (mq ?_);refine cq ?_;refine aq (nt (rx ?_));refine bF (eg (t:=Tl) (x:=([]:(List Int))) 6 rfl .nil rfl rfl) ?_;cases h;exact rb
  .cases h
 .
  rw [hr] at h u;replace h:=tQ h;refine aN (Δ:=[]) (F:=_) (λ_ _ _=>ag rfl _) rfl rfl (bJ (N:=[(.tmp 17,.rep an a0),(.tmp 18,.rep Tl a1),(.tmp 20,.rep Tl [a2]),(.const (.slice none 0 0),.eq (.slice none 0 0)),(.const (.slice none 0 0),.eq (.slice none 0 0))]) (aS [.tmp 17,.tmp 18,.tmp 20,.const (.slice none 0 0),.const (.slice none 0 0)] rfl rfl wa rfl u) λ_ _ _ hn=>⟨hn.1,hn.2.1,hn.2.2.1,(aA (t:=Tl) (x:=([]:(List Int))) .nil rfl rfl hn.2.2.2.1),(aA (t:=Tl) (x:=([]:(List Int))) .nil rfl rfl hn.2.2.2.2.1),trivial⟩) ⟨rfl,rfl,rfl,rfl,rfl,trivial⟩ λz4=>?_;refine mq ?_;refine xr ?_;refine xr ?_;refine xr ?_;refine aq ?_;refine aq ?_;refine aq (nt (aj (sr ?_)));refine mq ?_;refine jb (dZ rfl) ?_;refine nt (cn h (λh=>?_) (λh=>?_))
  .refine sr (mq ?_);refine cq ?_;refine aq (nt (rx ?_));refine bF (eg (t:=Tl) (x:=([]:(List Int))) 6 rfl .nil rfl rfl) ?_;cases h;exact rb
  .refine sk (sr ?_);iterate 3 refine mq ?_
   obtain⟨r5,X,h⟩:=aa h;refine fr 1 ?_;refine fr 1 ?_;refine aN (Δ:=[_,_]) (F:=_) (λ_ _ _=>ag rfl _) rfl rfl (aS [.tmp 28,.tmp 29,.tmp 30] rfl rfl SA rfl (lB k q3 z4.1 z4.2 r2.2.1 a2 r5 X)) ⟨rfl,rfl,rfl,trivial⟩ λ_=>?_;refine aq (nt (aj (sr ?_)));refine mq ?_;refine jb (bN rfl) ?_;refine nt (ci h (λh=>?_) (λh=>?_))
   .refine sr (cq ?_);refine cq (nt (rx ?_));refine bF (eg (t:=Tl) (x:=([]:(List Int))) 6 rfl .nil rfl rfl) ?_;cases h;exact rb
   .refine sk (sr ?_);iterate 2 refine mq ?_
    refine jb (eh [(0,.tmp 34,_),(1,.tmp 35,_)] rfl HH tp C3 (jO ⟨rfl,rfl,trivial⟩) rfl) ?_;refine aW rfl rfl rfl (bb rfl tp AX) trivial λb6=>?_;refine aJ rfl rfl (aE rfl jN trivial rfl rfl) ⟨rfl,rfl,trivial⟩ ?_;refine nt (sr ?_);iterate 2 refine mq ?_
    refine lo jN ?_;obtain⟨r7,U,h⟩:=aa h;refine fr 2 ?_;refine fr 2 ?_;refine aN (Δ:=[_,_]) (F:=_) (λ_ _ _=>ag rfl _) rfl rfl (bJ (N:=[(.tmp 37,.eq (.pointer (some ⟨z4.1,0,none⟩))),(.tmp 38,.eq (.int .u8 r2.2.1)),(.tmp 39,.agg (.pair (I a2) (I r5)))]) (aS [.tmp 37,.tmp 38,.tmp 39] rfl rfl UM rfl (rA k q3 z4.1 z4.2 r2.2.1 (a2,r5) r7 U)) λ_ _ _ hn=>⟨hn.1,hn.2.1,(aA (t:=bV) (x:=(a2,r5)) (.agg (.pair .int .int)) trivial rfl hn.2.2.1),trivial⟩) ⟨rfl,rfl,rfl,trivial⟩ λz8=>?_;refine aq (nt (sr ?_));refine mq ?_;refine aW rfl rfl rfl (nn (t:=Ti) [(.tmp 41,_)] [a2] rfl rfl dL (.cons rfl .int .nil) rfl rfl) ⟨rfl,trivial⟩ λv9=>?_;refine aq (nt ?_);refine aM (Z:=Value) (α:=(List Int)) (λj s=>[(13,.eq (.map (some z8))),(14,.eq j)]) (λj s=>[.sl j 3 Ti s,.inv z4.2 (bD k q3),.inv z8 (tH r7)]) h (λK h=>?_) (λj s h=>?_)
    .refine sr (ja (eh [(0,.const (.int .i64 (-1)),_)] rfl HH tp C3 (jO ⟨rfl,trivial⟩) rfl) ?_);refine aW rfl rfl rfl (bb rfl tp AX) trivial λmc=>?_;refine aJ rfl rfl (aE rfl jN trivial rfl rfl) ⟨rfl,rfl,trivial⟩ ?_;refine nt (ai (aL (λe c=>[(12,Pt b6),(13,.eq (.map (some z8))),(14,.eq e.1),(15,.eq (.pointer (some ⟨e.2,0,none⟩)))]) (λe c=>[.obj b6 131 (.agg (.pair (I c.1) (I c.2.1))),.sl e.1 3 Ti c.2.2,.obj e.2 131 (.agg (.pair (I (-1:Int)) (I 0))),.inv z4.2 (bD k q3),.inv z8 (tH r7)]) (kM k r7) k (v9,mc) (a2,r5,[a2]) (λ_=>rfl) h (SE.fin [5,1,0,4,2] ⟨rfl,rfl,rfl,rfl,trivial⟩ rfl) (λn e c h=>?_)));unfold kM at h;refine aj (aj (cV ?_));refine dm ?_;refine ea 0 (aC rfl jN (t7) rfl) ?_;obtain⟨qt,J,h⟩:=aa h;refine eb 4 (bJ (N:=[(.tmp 44,.eq (.map (some z8))),(.tmp 45,.agg (.pair (I c.1) (I c.2.1)))]) (so (K:=ll) (V:=ll) (t:=(c.1,c.2.1)) (l:=r7) (λn=>.rep bV n) uh rfl FX (0,0) ug mI (λ_ _ _ h=>nj h) (qT (am J)) (qS _) qU) λ_ _ _ hn=>⟨hn.1,(aA (t:=bV) (x:=(c.1,c.2.1)) (.agg (.pair .int .int)) trivial rfl hn.2.1),trivial⟩) ?_;refine ea 2 (aC rfl jN (t7) rfl) ?_;refine df dQ ?_;refine eF (eg (t:=bV) (x:=((-1:Int),0)) 47 rfl (.agg (.pair .int .int)) trivial rfl) ?_;refine jb (Pz rfl R2 rfl) ?_;refine nt (cn h (λh=>?_) (λh=>?_))
     .refine sk (aj (ai (ab ?_)));iterate 2 refine mq ?_
      refine lo jN ?_;refine eF (eg (t:=bV) (x:=(c.1,c.2.1)) 54 rfl (.agg (.pair .int .int)) trivial rfl) ?_;obtain⟨u16,E,h⟩:=aa h;refine fr 4 ?_;refine kb (bJ (N:=[(.tmp 53,.eq (.map (some z8))),(.tmp 54,.rep bV (c.1,c.2.1))]) (so (K:=ll) (V:=ll) (t:=(c.1,c.2.1)) (l:=r7) (λn=>.rep bV n) uh rfl FX (0,0) ug mI (λ_ _ _ h=>nj h) (qT (am E)) (qS _) qU) λ_ _ _ hn=>⟨hn.1,hn.2.1,trivial⟩) ?_;refine ja (Lj rfl Vo rfl cx (λ_=>rfl) rfl rfl rfl) ?_;refine ja (bj (t:=Ti) [(.tmp 56,_)] [(nA r7 (c.1,c.2.1) (0,0)).1] rfl rfl dL (.cons rfl .int .nil) rfl rfl) ?_;obtain⟨pq,D,h⟩:=aa h;refine fr 2 ?_;refine eG rfl rfl rfl (cO rfl rfl dL (am D)) ⟨rfl,rfl,trivial⟩ λO=>?_;refine aq (aF (aO (tn (aj (sr ?_)))));refine fr 3 ?_;refine lo jN ?_;refine nt (ab (aW rfl rfl rfl (bb rfl tp AX) trivial λgw=>?_));refine aJ rfl rfl (aE rfl jN trivial rfl rfl) ⟨rfl,rfl,trivial⟩ ?_;refine nt (ab (mq ?_));refine fr 4 ?_;refine lo jN ?_;refine eF (eg (t:=bV) (x:=(c.1,c.2.1)) 50 rfl (.agg (.pair .int .int)) trivial rfl) ?_;obtain⟨mw,y,h⟩:=aa h;refine fr 4 ?_;refine kb (bJ (N:=[(.tmp 49,.eq (.map (some z8))),(.tmp 50,.rep bV (c.1,c.2.1))]) (so (K:=ll) (V:=ll) (t:=(c.1,c.2.1)) (l:=r7) (λn=>.rep bV n) uh rfl FX (0,0) ug mI (λ_ _ _ h=>nj h) (qT (am y)) (qS _) qU) λ_ _ _ hn=>⟨hn.1,hn.2.1,trivial⟩) ?_;refine fr 1 ?_;refine aJ rfl rfl (aE rfl jN rfl rfl rfl) ⟨rfl,rfl,trivial⟩ ?_;refine nl (bF (fq (a:=.rep bV (nA r7 (c.1,c.2.1) (0,0))) (a':=.agg (.pair (I ((nA r7 (c.1,c.2.1) (0,0)).1)) (I ((nA r7 (c.1,c.2.1) (0,0)).2)))) (AE.trans EL (AE.agg (AE.trans Bc (AE.pair AE.int AE.int))))) ?_);exact jz ((O,gw),((nA r7 (c.1,c.2.1) (0,0)).1,(nA r7 (c.1,c.2.1) (0,0)).2,c.2.2++[(nA r7 (c.1,c.2.1) (0,0)).1])) h [0,4,2,5,1]
     .refine xa ?_;exact jz (e.1,c.2.2) h [1,3,4]
    .refine sr (mq ?_);refine fr 2 ?_;refine aJ rfl rfl (HU rfl rfl FX) ⟨rfl,trivial⟩ ?_;refine nt (sr (mq ?_));obtain⟨Q,M,h⟩:=aa h;refine fr 1 ?_;refine ka (ay [.tmp 61] rfl rfl UL rfl (qg k s j Q M)) ?_;refine nt (sr (mq ?_));refine aq ?_;refine cq (nt (ax ?_));refine bF (jo [6,14,61,63] ⟨rfl,rfl,rfl,rfl,trivial⟩) ?_;cases h;exact rb
def l7(k:Nat)(a0:ae)(a1:Int)(r2:(Option ae)×(List Int)×Int)(q3:ae)(y7:(List Int)×Int):Nat->(Int×Int)->Option Int
 |0,_=>none
 |n+1,c=>
  if c.2 < (r2.2.1.length:Int) then((((aR r2.2.1 c.2).bind λr=>
  (kz k q3 r).bind λu=>
  (aR u a1).bind λl=>
  (aR l y7.2).bind λj=>
  if a0.2.2.1≤j then((ck (c.1+1)).bind λh=>
  some h) else(some c.1)):Option (Int)).bind λs=>
  (ck (c.2+1)).bind λe=>
  l7 k a0 a1 r2 q3 y7 n (s,e)) else(some c.1)
def l8(k:Nat)(a0:ae)(a1:Int)(r2:(Option ae)×(List Int)×Int)(q3:ae):Nat->((List Int)×Int)->Option (List Int)
 |0,_=>none
 |n+1,y7=>
  if y7.2 < a0.1 then(((((l7 k a0 a1 r2 q3 y7 k (0,0)):Option (Int)).bind λc=>
  (ck ((r2.2.1.length:Int) - c)).bind λe=>
  (cP (bW (length y7.1+length [sR c e]))).bind λ_=>
  some (y7.1++[sR c e])):Option ((List Int))).bind λx9=>
  (ck (y7.2+1)).bind λh=>
  l8 k a0 a1 r2 q3 n (x9,h)) else(some y7.1)
def uM(k:Nat)(a0:ae)(a1:Int):Option (Int×Int×Int):=
 (iL k a0 ([]:(List Int)) ([]:(List Int)) [a1]).bind λr2=>
 fF r2.1 (if¬(r2.2.2=0) then(some (0,0,r2.2.2)) else(none)) (λq3=>if¬(r2.2.2=0) then(some (0,0,r2.2.2)) else(((l8 k a0 a1 r2 q3 k (([]:(List Int)),0)):Option ((List Int))).bind λx5=>
 (lW k x5).bind λc=>
 if(r2.2.1.length:Int)≤c then(some (0,0,11)) else((gi k x5 c).bind λe=>
 some (e,c,0))))
theorem zX(k:Nat)(a0:ae)(a1:Int)(r:Int×Int×Int)(h:uM k a0 a1=some r):
 bR (dJ Tryz.prog) 49 [.rep an a0,I a1] [] (λ_:Unit=>(bM [I r.1,I r.2.1,I r.2.2],[])):=by
 unfold uM at h
 replace h:=bh h
 refine bR.of 71 Tryz.func49 rfl Tryz.ntmps49 rfl λS w0=>?_
 refine sr ?_
 refine bx λb1=>?_
 refine cq ?_
 refine cq ?_
 refine cq ?_
 refine nt ?_
 refine sr ?_
 refine lo gC ?_
 refine mq ?_
 refine ja (bj (t:=Ti) [(.tmp 18,_)] [a1] rfl rfl dL (.cons rfl .int .nil) rfl rfl) ?_
 obtain⟨r2,V5,h⟩:=aa h
 have s:=kJ k a0 ([]:(List Int)) ([]:(List Int)) [a1] r2 V5
 rcases hr:r2.1 with _ |q3
 .
  rw [hr] at h s;replace h:=tR h;refine aN (Δ:=[]) (F:=_) (λ_ _ _=>ag rfl _) rfl rfl (bJ (N:=[(.tmp 17,.rep an a0),(.const (.slice none 0 0),.eq (.slice none 0 0)),(.const (.slice none 0 0),.eq (.slice none 0 0)),(.tmp 19,.rep Tl [a1])]) (aS [.tmp 17,.const (.slice none 0 0),.const (.slice none 0 0),.tmp 19] rfl rfl Aw rfl s) λ_ _ _ hn=>⟨hn.1,(aA (t:=Tl) (x:=([]:(List Int))) .nil rfl rfl hn.2.1),(aA (t:=Tl) (x:=([]:(List Int))) .nil rfl rfl hn.2.2.1),hn.2.2.2.1,trivial⟩) ⟨rfl,rfl,rfl,rfl,trivial⟩ λ_=>?_;refine mq ?_;refine xr ?_;refine xr ?_;refine xr ?_;refine aq ?_;refine aq ?_;refine aq (nt (aj (sr ?_)));refine mq ?_;refine jb (dZ rfl) ?_;refine nt (cn h (λh=>?_) (λh=>?_))
  .refine sr (mq ?_);refine cq ?_;refine cq ?_;refine aq (nt (rx ?_));cases h;exact aP () [_,_,_] 0 ⟨rfl,rfl,rfl,trivial⟩ rfl
  .cases h
 .
  rw [hr] at h s;replace h:=tQ h;refine aN (Δ:=[]) (F:=_) (λ_ _ _=>ag rfl _) rfl rfl (bJ (N:=[(.tmp 17,.rep an a0),(.const (.slice none 0 0),.eq (.slice none 0 0)),(.const (.slice none 0 0),.eq (.slice none 0 0)),(.tmp 19,.rep Tl [a1])]) (aS [.tmp 17,.const (.slice none 0 0),.const (.slice none 0 0),.tmp 19] rfl rfl Aw rfl s) λ_ _ _ hn=>⟨hn.1,(aA (t:=Tl) (x:=([]:(List Int))) .nil rfl rfl hn.2.1),(aA (t:=Tl) (x:=([]:(List Int))) .nil rfl rfl hn.2.2.1),hn.2.2.2.1,trivial⟩) ⟨rfl,rfl,rfl,rfl,trivial⟩ λz4=>?_;refine mq ?_;refine xr ?_;refine xr ?_;refine xr ?_;refine aq ?_;refine aq ?_;refine aq (nt (aj (sr ?_)));refine mq ?_;refine jb (dZ rfl) ?_;refine nt (cn h (λh=>?_) (λh=>?_))
  .refine sr (mq ?_);refine cq ?_;refine cq ?_;refine aq (nt (rx ?_));cases h;exact aP () [_,_,_] 0 ⟨rfl,rfl,rfl,trivial⟩ rfl
  .refine sk (sr (cq (nt ?_)));refine aM (Z:=Value) (α:=(List Int)) (λz6 x5=>[(8,.rep (.slice (.int .u8)) r2.2.1),(10,.eq z6)]) (λz6 x5=>[.sl z6 3 Ti x5,.inv z4.2 (bD k q3)]) h (λK h=>?_) (λz6 x5 h=>?_)
   .refine sr (fl gr ?_);refine fr 2 ?_;refine lo cx ?_;refine eH rfl ?_;refine nt (ai (iO (SE.nil 3 Ti) ?_));refine aL (λz8 y7=>[(1,I a1),(2,Pt b1),(7,.eq (.pointer (some ⟨z4.1,0,none⟩))),(8,.rep (.slice (.int .u8)) r2.2.1),(10,.eq z8),(28,I a0.1),(29,I y7.2)]) (λz8 y7=>[.obj b1 26 (.rep an a0),.obj z4.1 125 (aI q3 z4.2),.sl z8 3 Ti y7.1,.inv z4.2 (bD k q3)]) (l8 k a0 a1 r2 q3) k (.slice none 0 0) (([]:(List Int)),0) (λ_=>rfl) h (SE.fin [1,2,0,3] ⟨rfl,rfl,rfl,rfl,rfl,rfl,rfl,trivial⟩ rfl) (λn z8 y7 h=>?_);unfold l8 at h;refine sr (jb (bN rfl) ?_);refine nt (aj (ci h (λh=>?_) (λh=>?_)))
    .refine sk (aM (Z:=Value) (α:=(List Int)) (λe x9=>[(1,I a1),(2,Pt b1),(7,.eq (.pointer (some ⟨z4.1,0,none⟩))),(8,.rep (.slice (.int .u8)) r2.2.1),(10,.eq e),(28,I a0.1),(29,I y7.2)]) (λe x9=>[.obj b1 26 (.rep an a0),.obj z4.1 125 (aI q3 z4.2),.sl e 3 Ti x9,.inv z4.2 (bD k q3)]) h (λK h=>?_) (λe x9 h=>?_))
     .refine ai (sr (mq ?_));refine aq (nt (sr ?_));refine cq (nt ?_);refine aM (Z:=Unit) (α:=Int) (λE j=>[(1,I a1),(2,Pt b1),(7,.eq (.pointer (some ⟨z4.1,0,none⟩))),(8,.rep (.slice (.int .u8)) r2.2.1),(10,.eq z8),(12,I j),(28,I a0.1),(29,I y7.2)]) (λE j=>[.obj b1 26 (.rep an a0),.obj z4.1 125 (aI q3 z4.2),.sl z8 3 Ti y7.1,.inv z4.2 (bD k q3)]) h (λK h=>?_) (λE j h=>?_)
      .refine sr (mq ?_);refine ol xj ?_;refine eH rfl ?_;refine nt (ai (aL (λD c=>[(1,I a1),(2,Pt b1),(7,.eq (.pointer (some ⟨z4.1,0,none⟩))),(8,.rep (.slice (.int .u8)) r2.2.1),(10,.eq z8),(11,I y7.2),(12,I c.1),(28,I a0.1),(29,I y7.2),(32,.rep (.slice (.int .u8)) r2.2.1),(33,I (r2.2.1.length:Int)),(34,I c.2)]) (λD c=>[.obj b1 26 (.rep an a0),.obj z4.1 125 (aI q3 z4.2),.sl z8 3 Ti y7.1,.inv z4.2 (bD k q3)]) (l7 k a0 a1 r2 q3 y7) k () (0,0) (λ_=>rfl) h (SE.fin [0,1,2,3] ⟨rfl,rfl,rfl,rfl,rfl,rfl,rfl,rfl,rfl,rfl,rfl,rfl,trivial⟩ rfl) (λn D c h=>?_)));unfold l7 at h;refine sr (jb (bN rfl) ?_);refine nt (aj (ci h (λh=>?_) (λh=>?_)))
       .refine sk (aM (Z:=Unit) (α:=Int) (λy l=>[(1,I a1),(2,Pt b1),(7,.eq (.pointer (some ⟨z4.1,0,none⟩))),(8,.rep (.slice (.int .u8)) r2.2.1),(10,.eq z8),(11,I y7.2),(12,I l),(28,I a0.1),(29,I y7.2),(32,.rep (.slice (.int .u8)) r2.2.1),(33,I (r2.2.1.length:Int)),(34,I c.2)]) (λy l=>[.obj b1 26 (.rep an a0),.obj z4.1 125 (aI q3 z4.2),.sl z8 3 Ti y7.1,.inv z4.2 (bD k q3)]) h (λK h=>?_) (λy l h=>?_))
        .refine ai (sr ?_);obtain⟨V0,gw,h⟩:=aa h;refine jb (aX (t:=(.int .u8)) rfl xj oh gw) ?_;refine ja (au (t:=(.int .u8)) rfl oh rfl) ?_;refine aq (nt (aj ?_));refine cV ?_;refine dm ?_;refine dm ?_;obtain⟨V4,qt,h⟩:=aa h;refine QD 1 3 rfl rfl (by kernel_rfl) rfl rfl rfl (aS [.tmp 38,.tmp 39] rfl rfl CS rfl (nE k q3 z4.1 z4.2 V0 V4 qt)) ⟨rfl,rfl,trivial⟩ ?_;refine dm ?_;obtain⟨V7,Y,h⟩:=aa h;refine db (jP (t:=Tr) rfl Jr iT rfl rfl (t7) Y) ?_;refine dm ?_;obtain⟨V6,X,h⟩:=aa h;refine db (jP (t:=Ti) rfl Bl cx rfl rfl (λ_=>rfl) X) ?_;refine da (aH rfl yn) ?_;refine ea 0 (aC rfl cx nW rfl) ?_;refine df dQ ?_;refine jb (jt rfl) ?_;refine nt (ci h (λh=>?_) (λh=>?_))
         .refine ab (mq ?_);obtain⟨VZ,U,h⟩:=aa h;refine jb (bp rfl U) ?_;refine aq (aF (bn ?_));exact jz ((),VZ) h [0,1,2,3]
         .refine bf (bn ?_);exact jz ((),c.1) h [0,1,2,3]
        .refine ab ?_;obtain⟨zM,Q,h⟩:=aa h;refine jb (bp rfl Q) ?_;refine mq (nl ?_);exact jz ((),(l,zM)) h [0,1,2,3]
       .refine xa ?_;exact jz ((),c.1) h [0,1,2,3]
      .refine ab ?_;iterate 3 refine mq ?_
       refine ol xj ?_;refine mq ?_;obtain⟨J,O,h⟩:=aa h;refine jb (eM rfl O) ?_;refine jb (HQ rfl rfl) ?_;refine ja (bj (t:=Ti) [(.tmp 57,_)] [sR j J] rfl rfl dL (.cons rfl .int .nil) rfl rfl) ?_;obtain⟨V8,mc,h⟩:=aa h;refine fr 2 ?_;refine eG rfl rfl rfl (cO rfl rfl dL (am mc)) ⟨rfl,rfl,trivial⟩ λV2=>?_;refine aq (aF (bn ?_));exact jz (V2,y7.1++[sR j J]) h [1,2,0,3]
     .refine ab ?_;obtain⟨zz,M,h⟩:=aa h;refine jb (bp rfl M) ?_;refine mq (nl ?_);exact jz (e,(x9,zz)) h [0,1,2,3]
    .refine xa ?_;exact jz (z8,y7.1) h [2,3]
   .refine sr (mq ?_);obtain⟨u,pq,h⟩:=aa h;refine ka (jE (N:=[(.tmp 61,.eq z6)]) (ay [.tmp 61] rfl rfl Sz rfl (ot k x5 u pq)) (λ_ _ _ hv hn=>⟨(lend hn.1 hv),trivial⟩) (λ_=>⟨rfl,oQ⟩)) ?_;refine aq (nt (aj (sr ?_)));iterate 2 refine mq ?_
    refine ol xj ?_;refine jb (jt rfl) ?_;refine nt (ci h (λh=>?_) (λh=>?_))
    .refine sr (cq ?_);refine cq ?_;refine cq (nt (rx ?_));cases h;exact aP () [_,_,_] 0 ⟨rfl,rfl,rfl,trivial⟩ rfl
    .refine sk (sr ?_);iterate 2 refine mq ?_
     obtain⟨V3,mw,h⟩:=aa h;refine kb (jE (N:=[(.tmp 67,.eq z6),(.tmp 68,I u)]) (ay [.tmp 67,.tmp 68] rfl rfl Sj rfl (mK k x5 u V3 mw)) (λ_ _ _ hv hn=>⟨(lend hn.1 hv),hn.2.1,trivial⟩) (λ_=>⟨rfl,oQ⟩)) ?_;refine mq ?_;refine aq ?_;refine aq ?_;refine cq (nt (ax ?_));cases h;exact aP () [_,_,_] 0 ⟨rfl,rfl,rfl,trivial⟩ rfl
def jI(k:Nat)(a1:Int)(a2:Int)(y4:(List (List (List Int)))×Int)(h:(List Int)):Nat->((List Int)×Int)->Option (List Int)
 |0,_=>none
 |n+1,c=>
  if c.2 < (h.length:Int) then((((aR h c.2).bind λe=>
  ((if y4.2 < a1 then(some true) else((eX k a2 e).bind λs=>
  some (!s))):Option (Bool)).bind λl=>
  if l=true then((cP (bW (length c.1+length [e]))).bind λ_=>
  some (c.1++[e])) else(some c.1)):Option ((List Int))).bind λr=>
  (ck (c.2+1)).bind λj=>
  jI k a1 a2 y4 h n (r,j)) else(some c.1)
def jJ(k:Nat)(a1:Int)(a2:Int)(y4:(List (List (List Int)))×Int)(x8:(List (List Int))):Nat->((List (List Int))×Int)->Option (List (List Int))
 |0,_=>none
 |n+1,c=>
  if c.2 < (x8.length:Int) then((((aR x8 c.2).bind λj=>
  ((jI k a1 a2 y4 j k (([]:(List Int)),0)):Option ((List Int))).bind λe=>
  (cP (bW (length c.1+length [e]))).bind λ_=>
  some (c.1++[e])):Option ((List (List Int)))).bind λl=>
  (ck (c.2+1)).bind λh=>
  jJ k a1 a2 y4 x8 n (l,h)) else(some c.1)
def jK(k:Nat)(a0:ae)(a1:Int)(a2:Int):Nat->((List (List (List Int)))×Int)->Option (List (List (List Int)))
 |0,_=>none
 |n+1,y4=>
  if y4.2 < (a0.2.2.2.2.1.length:Int) then((((aR a0.2.2.2.2.1 y4.2).bind λx8=>
  ((jJ k a1 a2 y4 x8 k (([]:(List (List Int))),0)):Option ((List (List Int)))).bind λx9=>
  (cP (bW (length y4.1+length [x9]))).bind λ_=>
  some (y4.1++[x9])):Option ((List (List (List Int))))).bind λx6=>
  (ck (y4.2+1)).bind λc=>
  jK k a0 a1 a2 n (x6,c)) else(some y4.1)
def nv(k:Nat)(a0:ae)(a1:Int)(a2:Int):Option (Option ae):=
 ((jK k a0 a1 a2 k (([]:(List (List (List Int)))),0)):Option ((List (List (List Int))))).bind λx2=>
 (jd k (a0.1,a0.2.1,a0.2.2.1,a0.2.2.2.1,x2,a0.2.2.2.2.2)).bind λc=>
 fF c (some none) (λe=>some (some e))
theorem vW(k:Nat)(a0:ae)(a1:Int)(a2:Int)(r:(Option ae))(h:nv k a0 a1 a2=some r):
 dD Tryz.prog 83 [.rep an a0,I a1,.eq (.int .u8 a2)] [] (λz:Nat×Nat=>(bM [K8 r z.1],K7 r λq=>qO q z.1 z.2 k)):=by
 unfold nv at h
 replace h:=bh h
 refine dD.of 69 Tryz.func83 rfl Tryz.ntmps83 rfl λS w0=>?_
 refine sr ?_
 refine bx λb1=>?_
 refine cq ?_
 refine nt ?_
 refine sr ?_
 refine fl eO ?_
 refine lo lR ?_
 refine mq ?_
 refine ja (oG [.tmp 19] [] [(.int .u8 a2)] [] rfl rfl rfl) ?_
 refine aq ?_
 refine aq ?_
 refine nt ?_
 refine sr ?_
 refine fl eO ?_
 refine aJ rfl rfl (aE rfl lR rfl rfl rfl) ⟨rfl,rfl,trivial⟩ ?_
 refine nt ?_
 refine aM (Z:=Value) (α:=(List (List (List Int)))) (λz3 x2=>[(3,Pt b1)]) (λz3 x2=>[.obj b1 26 (.agg (.pair (I a0.1) (.pair (I a0.2.1) (.pair (I a0.2.2.1) (.pair (I a0.2.2.2.1) (.pair (.eq z3) (Rs bz a0.2.2.2.2.2))))))),.sl z3 30 (.slice Tl) x2]) h (λK h=>?_) (λz3 x2 h=>?_)
 .
  refine sr (mq ?_);refine ol Bm ?_;refine eH rfl ?_;refine nt (ai (iO (SE.nil 30 (.slice Tl)) ?_));refine cE 1 rfl ?_;refine iO (fq (a:=.agg (.pair (.rep Ti a0.1) (.pair (.rep Ti a0.2.1) (.pair (.rep Ti a0.2.2.1) (.pair (.rep Ti a0.2.2.2.1) (.pair (.eq (.slice none 0 0)) (Rs bz a0.2.2.2.2.2))))))) (a':=.agg (.pair (I a0.1) (.pair (I a0.2.1) (.pair (I a0.2.2.1) (.pair (I a0.2.2.2.1) (.pair (.eq (.slice none 0 0)) (Rs bz a0.2.2.2.2.2))))))) (AE.agg (AE.pair AE.int (AE.pair AE.int (AE.pair AE.int (AE.pair AE.int AE.rfl)))))) ?_;refine aL (λz5 y4=>[(1,I a1),(3,Pt b1),(8,.eq (.func (.func 75) #[(.int .u8 a2)] #[])),(22,.rep (.slice (.slice Tl)) a0.2.2.2.2.1),(23,I (a0.2.2.2.2.1.length:Int)),(24,I y4.2)]) (λz5 y4=>[.obj b1 26 (.agg (.pair (I a0.1) (.pair (I a0.2.1) (.pair (I a0.2.2.1) (.pair (I a0.2.2.2.1) (.pair (.eq z5) (Rs bz a0.2.2.2.2.2))))))),.sl z5 30 (.slice Tl) y4.1]) (jK k a0 a1 a2) k (.slice none 0 0) (([]:(List (List (List Int)))),0) (λ_=>rfl) h (SE.fin [0,1] ⟨rfl,rfl,rfl,rfl,rfl,rfl,trivial⟩ rfl) (λn z5 y4 h=>?_);unfold jK at h;refine sr (jb (bN rfl) ?_);refine nt (aj (ci h (λh=>?_) (λh=>?_)))
  .refine sk (aM (Z:=Value) (α:=(List (List (List Int)))) (λz7 x6=>[(1,I a1),(3,Pt b1),(8,.eq (.func (.func 75) #[(.int .u8 a2)] #[])),(22,.rep (.slice (.slice Tl)) a0.2.2.2.2.1),(23,I (a0.2.2.2.2.1.length:Int)),(24,I y4.2)]) (λz7 x6=>[.obj b1 26 (.agg (.pair (I a0.1) (.pair (I a0.2.1) (.pair (I a0.2.2.1) (.pair (I a0.2.2.2.1) (.pair (.eq z7) (Rs bz a0.2.2.2.2.2))))))),.sl z7 30 (.slice Tl) x6]) h (λK h=>?_) (λz7 x6 h=>?_))
   .refine ai (sr (mq ?_));obtain⟨x8,We,h⟩:=aa h;refine jb (aX (t:=(.slice Tl)) rfl Bm zr We) ?_;refine ja (au (t:=(.slice Tl)) rfl zr rfl) ?_;refine aq ?_;refine aq (nt (sr ?_));refine cq (nt ?_);refine aM (Z:=Value) (α:=(List (List Int))) (λQ x9=>[(1,I a1),(3,Pt b1),(8,.eq (.func (.func 75) #[(.int .u8 a2)] #[])),(11,.eq Q),(22,.rep (.slice (.slice Tl)) a0.2.2.2.2.1),(23,I (a0.2.2.2.2.1.length:Int)),(24,I y4.2)]) (λQ x9=>[.obj b1 26 (.agg (.pair (I a0.1) (.pair (I a0.2.1) (.pair (I a0.2.2.1) (.pair (I a0.2.2.2.1) (.pair (.eq z5) (Rs bz a0.2.2.2.2.2))))))),.sl z5 30 (.slice Tl) y4.1,.sl Q 22 Tl x9]) h (λK h=>?_) (λQ x9 h=>?_)
    .refine sr (mq ?_);refine ol ta ?_;refine eH rfl ?_;refine nt (ai (iO (SE.nil 22 Tl) ?_));refine aL (λe c=>[(1,I a1),(3,Pt b1),(8,.eq (.func (.func 75) #[(.int .u8 a2)] #[])),(9,I y4.2),(11,.eq e),(22,.rep (.slice (.slice Tl)) a0.2.2.2.2.1),(23,I (a0.2.2.2.2.1.length:Int)),(24,I y4.2),(29,.rep (.slice Tl) x8),(30,I (x8.length:Int)),(31,I c.2)]) (λe c=>[.obj b1 26 (.agg (.pair (I a0.1) (.pair (I a0.2.1) (.pair (I a0.2.2.1) (.pair (I a0.2.2.2.1) (.pair (.eq z5) (Rs bz a0.2.2.2.2.2))))))),.sl z5 30 (.slice Tl) y4.1,.sl e 22 Tl c.1]) (jJ k a1 a2 y4 x8) k (.slice none 0 0) (([]:(List (List Int))),0) (λ_=>rfl) h (SE.fin [1,2,0] ⟨rfl,rfl,rfl,rfl,rfl,rfl,rfl,rfl,rfl,rfl,rfl,trivial⟩ rfl) (λn e c h=>?_);unfold jJ at h;refine sr (jb (bN rfl) ?_);refine nt (aj (ci h (λh=>?_) (λh=>?_)))
     .refine sk (aM (Z:=Value) (α:=(List (List Int))) (λE X=>[(1,I a1),(3,Pt b1),(8,.eq (.func (.func 75) #[(.int .u8 a2)] #[])),(9,I y4.2),(11,.eq E),(22,.rep (.slice (.slice Tl)) a0.2.2.2.2.1),(23,I (a0.2.2.2.2.1.length:Int)),(24,I y4.2),(29,.rep (.slice Tl) x8),(30,I (x8.length:Int)),(31,I c.2)]) (λE X=>[.obj b1 26 (.agg (.pair (I a0.1) (.pair (I a0.2.1) (.pair (I a0.2.2.1) (.pair (I a0.2.2.2.1) (.pair (.eq z5) (Rs bz a0.2.2.2.2.2))))))),.sl z5 30 (.slice Tl) y4.1,.sl E 22 Tl X]) h (λK h=>?_) (λE X h=>?_))
      .refine ai (sr ?_);obtain⟨u,V0,h⟩:=aa h;refine jb (aX (t:=Tl) rfl ta gG V0) ?_;refine ja (au (t:=Tl) rfl gG rfl) ?_;refine aq (nt (sr ?_));refine cq (nt ?_);refine aM (Z:=Value) (α:=(List Int)) (λO M=>[(1,I a1),(3,Pt b1),(8,.eq (.func (.func 75) #[(.int .u8 a2)] #[])),(9,I y4.2),(11,.eq e),(14,.eq O),(22,.rep (.slice (.slice Tl)) a0.2.2.2.2.1),(23,I (a0.2.2.2.2.1.length:Int)),(24,I y4.2),(29,.rep (.slice Tl) x8),(30,I (x8.length:Int)),(31,I c.2)]) (λO M=>[.obj b1 26 (.agg (.pair (I a0.1) (.pair (I a0.2.1) (.pair (I a0.2.2.1) (.pair (I a0.2.2.2.1) (.pair (.eq z5) (Rs bz a0.2.2.2.2.2))))))),.sl z5 30 (.slice Tl) y4.1,.sl e 22 Tl c.1,.sl O 3 Ti M]) h (λK h=>?_) (λO M h=>?_)
       .refine sr (mq ?_);refine ol ie ?_;refine eH rfl ?_;refine nt (ai (iO (SE.nil 3 Ti) ?_));refine aL (λl j=>[(1,I a1),(3,Pt b1),(8,.eq (.func (.func 75) #[(.int .u8 a2)] #[])),(9,I y4.2),(11,.eq e),(14,.eq l),(22,.rep (.slice (.slice Tl)) a0.2.2.2.2.1),(23,I (a0.2.2.2.2.1.length:Int)),(24,I y4.2),(29,.rep (.slice Tl) x8),(30,I (x8.length:Int)),(31,I c.2),(35,.rep Tl u),(36,I (u.length:Int)),(37,I j.2)]) (λl j=>[.obj b1 26 (.agg (.pair (I a0.1) (.pair (I a0.2.1) (.pair (I a0.2.2.1) (.pair (I a0.2.2.2.1) (.pair (.eq z5) (Rs bz a0.2.2.2.2.2))))))),.sl z5 30 (.slice Tl) y4.1,.sl e 22 Tl c.1,.sl l 3 Ti j.1]) (jI k a1 a2 y4 u) k (.slice none 0 0) (([]:(List Int)),0) (λ_=>rfl) h (SE.fin [1,2,3,0] ⟨rfl,rfl,rfl,rfl,rfl,rfl,rfl,rfl,rfl,rfl,rfl,rfl,rfl,rfl,rfl,trivial⟩ rfl) (λn l j h=>?_);unfold jI at h;refine sr (jb (bN rfl) ?_);refine nt (aj (ci h (λh=>?_) (λh=>?_)))
        .refine sk (aM (Z:=Value) (α:=(List Int)) (λD U=>[(1,I a1),(3,Pt b1),(8,.eq (.func (.func 75) #[(.int .u8 a2)] #[])),(9,I y4.2),(11,.eq e),(14,.eq D),(22,.rep (.slice (.slice Tl)) a0.2.2.2.2.1),(23,I (a0.2.2.2.2.1.length:Int)),(24,I y4.2),(29,.rep (.slice Tl) x8),(30,I (x8.length:Int)),(31,I c.2),(35,.rep Tl u),(36,I (u.length:Int)),(37,I j.2)]) (λD U=>[.obj b1 26 (.agg (.pair (I a0.1) (.pair (I a0.2.1) (.pair (I a0.2.2.1) (.pair (I a0.2.2.2.1) (.pair (.eq z5) (Rs bz a0.2.2.2.2.2))))))),.sl z5 30 (.slice Tl) y4.1,.sl e 22 Tl c.1,.sl D 3 Ti U]) h (λK h=>?_) (λD U h=>?_))
         .refine ai (sr ?_);obtain⟨J,VZ,h⟩:=aa h;refine jb (aX (t:=Ti) rfl ie cx VZ) ?_;refine ja (au (t:=Ti) rfl cx rfl) ?_;refine aq (nt ?_);refine aM (Z:=Unit) (α:=Bool) (λmc gw=>[(1,I a1),(3,Pt b1),(8,.eq (.func (.func 75) #[(.int .u8 a2)] #[])),(9,I y4.2),(11,.eq e),(14,.eq l),(16,I J),(22,.rep (.slice (.slice Tl)) a0.2.2.2.2.1),(23,I (a0.2.2.2.2.1.length:Int)),(24,I y4.2),(29,.rep (.slice Tl) x8),(30,I (x8.length:Int)),(31,I c.2),(35,.rep Tl u),(36,I (u.length:Int)),(37,I j.2),(49,.eq (.bool gw))]) (λmc gw=>[.obj b1 26 (.agg (.pair (I a0.1) (.pair (I a0.2.1) (.pair (I a0.2.2.1) (.pair (I a0.2.2.2.1) (.pair (.eq z5) (Rs bz a0.2.2.2.2.2))))))),.sl z5 30 (.slice Tl) y4.1,.sl e 22 Tl c.1,.sl l 3 Ti j.1]) h (λK h=>?_) (λmc gw h=>?_)
          .refine ab ?_;iterate 2 refine mq ?_
           refine jb (bN rfl) ?_;refine mq ?_;refine cQ (s:=44) rfl (λhb=>?_) (λhb=>?_)
           .replace h:=eL (va hb) h;iterate 4 refine gn ?_
            refine pt (nl ?_);exact jz ((),true) h [0,1,2,3]
           .replace h:=cY (vb hb) h;refine gm ?_;refine gm ?_;obtain⟨pq,V6,h⟩:=aa h;refine gb (t5 (fs:=[(.int .u8 a2)]) (cs:=[]) (ags:=[I J]) [.tmp 46] rfl rfl IX rfl (gQ k a2 J pq V6)) ?_;refine ga (ic rfl) ?_;refine pf (nl ?_);exact jz ((), !pq) h [0,1,2,3]
          .refine cv h (λh=>?_) (λh=>?_)
           .refine ab ?_;iterate 2 refine mq ?_
            refine ja (bj (t:=Ti) [(.tmp 51,_)] [J] rfl rfl dL (.cons rfl .int .nil) rfl rfl) ?_;obtain⟨Wh,V4,h⟩:=aa h;refine fr 3 ?_;refine eG rfl rfl rfl (cO rfl rfl dL (am V4)) ⟨rfl,rfl,trivial⟩ λWc=>?_;refine aq (aF (bn ?_));exact jz (Wc,j.1++[J]) h [1,2,3,0]
           .refine bf (bn ?_);exact jz (l,j.1) h [0,1,2,3]
         .refine ab ?_;obtain⟨V9,zM,h⟩:=aa h;refine jb (bp rfl zM) ?_;refine mq (nl ?_);exact jz (D,(U,V9)) h [0,1,2,3]
        .refine xa ?_;exact jz (l,j.1) h [0,1,2,3]
       .refine ab ?_;iterate 2 refine mq ?_
        refine fr 3 ?_;refine eF (jo [14,56] ⟨rfl,rfl,trivial⟩) ?_;refine ja (bj (t:=Tl) [(.tmp 56,_)] [M] rfl rfl pM (.cons rfl .rep .nil) rfl rfl) ?_;obtain⟨Wg,V3,h⟩:=aa h;refine fr 2 ?_;refine eG rfl rfl rfl (cO rfl rfl pM (am V3)) ⟨rfl,rfl,trivial⟩ λWb=>?_;refine aq (aF (bn ?_));exact jz (Wb,c.1++[M]) h [1,2,0]
      .refine ab ?_;obtain⟨V8,zz,h⟩:=aa h;refine jb (bp rfl zz) ?_;refine mq (nl ?_);exact jz (E,(X,V8)) h [0,1,2]
     .refine xa ?_;exact jz (e,c.1) h [0,1,2]
    .refine ab (fl eO ?_);refine lo lR ?_;refine mq ?_;refine fr 2 ?_;refine eF (jo [11,62] ⟨rfl,rfl,trivial⟩) ?_;refine ja (bj (t:=(.slice Tl)) [(.tmp 62,_)] [x9] rfl rfl BG (.cons rfl .rep .nil) rfl rfl) ?_;obtain⟨u32,V2,h⟩:=aa h;refine fr 1 ?_;refine eG rfl rfl rfl (cO rfl rfl BG (am V2)) ⟨rfl,rfl,trivial⟩ λWa=>?_;refine fl eO ?_;refine tf λo34=>?_;refine fr 1 ?_;refine aJ rfl rfl (aE rfl lR o34 rfl rfl) ⟨rfl,rfl,trivial⟩ ?_;refine aF (bn ?_);exact jz (Wa,y4.1++[x9]) h [0,1]
   .refine ab ?_;obtain⟨V7,qt,h⟩:=aa h;refine jb (bp rfl qt) ?_;refine mq (nl ?_);exact jz (z7,(x6,V7)) h [0,1]
  .refine xa ?_;exact jz (z5,y4.1) h [0,1]
 .
  refine sr (fr 1 ?_);refine eF (nH (off:=4) [] trivial rfl rfl) ?_;refine lo gC ?_;obtain⟨mw,V5,h⟩:=aa h;have y:=nR k (a0.1,a0.2.1,a0.2.2.1,a0.2.2.2.1,x2,a0.2.2.2.2.2) mw V5;rcases hr:mw with _ |Wi
  .rw [hr] at h y;replace h:=tR h;refine aN (Δ:=[]) (F:=_) (λ_ _ _=>ag rfl _) rfl rfl (bJ (N:=[(.tmp 67,.agg (.pair (I a0.1) (.pair (I a0.2.1) (.pair (I a0.2.2.1) (.pair (I a0.2.2.2.1) (.pair (.rep (.slice (.slice Tl)) x2) (Rs bz a0.2.2.2.2.2)))))))]) (ay [.tmp 67] rfl rfl MF rfl y) λ_ _ _ hn=>⟨(aA (t:=an) (x:=(a0.1,a0.2.1,a0.2.2.1,a0.2.2.2.1,x2,a0.2.2.2.2.2)) (.agg (.pair .int (.pair .int (.pair .int (.pair .int (.pair .rep .rep)))))) trivial rfl hn.1),trivial⟩) ⟨rfl,trivial⟩ λ_=>?_;refine aq (nt (ax ?_));cases h;exact aP (0,0) [.eq (.pointer none)] 0 ⟨rfl,trivial⟩ rfl
  .rw [hr] at h y;replace h:=tQ h;refine aN (Δ:=[]) (F:=_) (λ_ _ _=>ag rfl _) rfl rfl (bJ (N:=[(.tmp 67,.agg (.pair (I a0.1) (.pair (I a0.2.1) (.pair (I a0.2.2.1) (.pair (I a0.2.2.2.1) (.pair (.rep (.slice (.slice Tl)) x2) (Rs bz a0.2.2.2.2.2)))))))]) (ay [.tmp 67] rfl rfl MF rfl y) λ_ _ _ hn=>⟨(aA (t:=an) (x:=(a0.1,a0.2.1,a0.2.2.1,a0.2.2.2.1,x2,a0.2.2.2.2.2)) (.agg (.pair .int (.pair .int (.pair .int (.pair .int (.pair .rep .rep)))))) trivial rfl hn.1),trivial⟩) ⟨rfl,trivial⟩ λY=>?_;refine aq (nt (ax ?_));cases h;exact aP (Y.1,Y.2) [.eq (.pointer (some ⟨Y.1,0,none⟩))] 2 ⟨rfl,trivial⟩ rfl
def eZ(k:Nat)(a0:ae)(r1:(List (List Int)))(y5:Int):Nat->Int->Option (Except Bool Unit)
 |0,_=>none
 |n+1,c=>
  if c < a0.1 then((((aR r1 y5).bind λs=>
  (aR s c).bind λr=>
  if r < 0 then((ck (y5+1)).bind λl=>
  (aR r1 l).bind λj=>
  (aR j c).bind λh=>
  some (decide (h=0))) else(some false)):Option (Bool)).bind λu=>
  if u=true then(some (.error true)) else((ck (c+1)).bind λe=>
  eZ k a0 r1 y5 n e)) else(some (.ok ()))
def fa(k:Nat)(a0:ae)(r1:(List (List Int))):Nat->Int->Option (Except Bool Unit)
 |0,_=>none
 |n+1,y5=>
  if y5 < (a0.2.2.2.2.1.length:Int) then(bE (α:=Unit) ((ck (y5+1)).bind λx9=>
  (aR r1 x9).bind λh=>
  (aR r1 y5).bind λc=>
  (cP (xG h/\xG c)).bind λ_=>
  if h=c then(some (.ok ())) else(eZ k a0 r1 y5 k 0)) (λe=>some (.error e)) λ_=>
  (ck (y5+1)).bind λj=>
  fa k a0 r1 n j) else(some (.ok ()))
def je(k:Nat)(a0:ae)(a1:Int)(a2:Int):Option Bool:=
 (kz k a0 a1).bind λr1=>
 bE (α:=Unit) (fa k a0 r1 k a2) (some) λ_=>
 some false
theorem oK(k:Nat)(a0:ae)(c z_a0:Nat)(a1:Int)(a2:Int)(r:Bool)(h:je k a0 a1 a2=some r):
 bR (dJ Tryz.prog) 85 [Pt c,.eq (.int .u8 a1),I a2] [.obj c 125 (aI a0 z_a0),.inv z_a0 (bD k a0)] (λ_:Unit=>(bM [.eq (.bool r)],[.obj c 125 (aI a0 z_a0),.inv z_a0 (bD k a0)])):=by
 unfold je at h
 replace h:=bh h
 refine bR.of 56 Tryz.func85 rfl Tryz.ntmps85 rfl λS w0=>?_
 refine sr ?_
 refine cq ?_
 refine nt ?_
 refine sr ?_
 iterate 2 refine mq ?_
 obtain⟨r1,zz,h⟩:=aa h
 have zM:=nE k a0 c z_a0 a1 r1 zz
 refine fr 1 ?_
 refine fr 1 ?_
 refine aN (Δ:=[_,_]) (F:=_) (λ_ _ _=>ag rfl _) rfl rfl (aS [.tmp 10,.tmp 11] rfl rfl CS rfl zM) ⟨rfl,rfl,trivial⟩ λ_=>?_
 refine aW rfl rfl rfl (bb rfl Gq Ji) trivial λb2=>?_
 refine aJ rfl rfl (aE rfl G8 rfl rfl rfl) ⟨rfl,rfl,trivial⟩ ?_
 refine eF (jD (t:=(.arr 7 Tr)) (x:=r1) [7] .rep ⟨rfl,trivial⟩) ?_
 refine nt ?_
 refine dK (Z:=Unit) (α:=Unit) (λz4 x3=>[]) (λz4 x3=>[.obj c 125 (aI a0 z_a0),.inv z_a0 (bD k a0)]) (λe=>e=r) h (λe h=>Option.some.inj h) (λK hR h=>?_) (λz4 x3 h=>?_)
 .
  refine sr (mq ?_);refine aq (nt (ai ?_));refine aL (λz6 y5=>[(0,Pt c),(7,.at (.arr 7 Tr) r1),(8,I y5)]) (λz6 y5=>[.obj c 125 (aI a0 z_a0),.inv z_a0 (bD k a0)]) (fa k a0 r1) k () a2 (λ_=>rfl) h (SE.fin [0,1] ⟨rfl,rfl,rfl,trivial⟩ rfl) (λn z6 y5 h=>?_);unfold fa at h;refine aj (sr ?_);iterate 2 refine mq ?_
  refine ja (cR rfl) ?_;refine fl ia ?_;refine fl eO ?_;refine lo lR ?_;refine ol Bm ?_;refine jb (bN rfl) ?_;refine nt (ci h (λh=>?_) (λh=>?_))
  .refine sk (dK (Z:=Unit) (α:=Unit) (λz8 x7=>[(0,Pt c),(7,.at (.arr 7 Tr) r1),(8,I y5)]) (λz8 x7=>[.obj c 125 (aI a0 z_a0),.inv z_a0 (bD k a0)]) (λe=>e=r) h (λe h=>hR e h) (λK hR h=>?_) (λz8 x7 h=>?_))
   .refine ai (aj (aj (cV ?_)));refine dm ?_;obtain⟨x9,qt,h⟩:=aa h;refine db (bp rfl qt) ?_;obtain⟨V5,gw,h⟩:=aa h;refine db (cy (t:=Tr) rfl Jr iT gw) ?_;refine da (au (t:=Tr) rfl iT rfl) ?_;refine dm ?_;obtain⟨V4,Y,h⟩:=aa h;refine db (cy (t:=Tr) rfl Jr iT Y) ?_;refine da (au (t:=Tr) rfl iT rfl) ?_;refine df dQ ?_;obtain⟨V6,l,h⟩:=aa h;refine jb (HT rfl (am l).1 (am l).2) ?_;refine nt (ci h (λh=>?_) (λh=>?_))
    .refine d5 (bv (cu (ap ?_)));exact jz ((),()) h [0,1]
    .refine sk (sr (mq ?_));refine ja (cR rfl) ?_;refine fl ia ?_;refine fl gr ?_;refine lo cx ?_;refine eH rfl ?_;refine nt (ai (aL (λD j=>[(0,Pt c),(7,.at (.arr 7 Tr) r1),(8,I y5),(36,I a0.1),(37,I j)]) (λD j=>[.obj c 125 (aI a0 z_a0),.inv z_a0 (bD k a0)]) (eZ k a0 r1 y5) k () 0 (λ_=>rfl) h (SE.fin [0,1] ⟨rfl,rfl,rfl,rfl,rfl,trivial⟩ rfl) (λn D j h=>?_)));unfold eZ at h;refine sr (jb (bN rfl) ?_);refine nt (aj (ci h (λh=>?_) (λh=>?_)))
     .refine sk (aj (ai (sr (mq ?_))));refine aq (nt ?_);refine aM (Z:=Unit) (α:=Bool) (λy u=>[(0,Pt c),(7,.at (.arr 7 Tr) r1),(8,I y5),(36,I a0.1),(37,I j),(54,.eq (.bool u))]) (λy u=>[.obj c 125 (aI a0 z_a0),.inv z_a0 (bD k a0)]) h (λK h=>?_) (λy u h=>?_)
      .refine ab ?_;iterate 2 refine mq ?_
       obtain⟨V3,X,h⟩:=aa h;refine jb (cy (t:=Tr) rfl Jr iT X) ?_;obtain⟨V2,U,h⟩:=aa h;refine jb (cy (t:=Ti) rfl Bl cx U) ?_;refine ja (au (t:=Ti) rfl cx rfl) ?_;refine jb (bN rfl) ?_;refine mq ?_;refine cQ (s:=46) rfl (λhb=>?_) (λhb=>?_)
       .replace h:=eL (va hb) h;refine gm ?_;obtain⟨V0,Q,h⟩:=aa h;refine gb (bp rfl Q) ?_;refine gm ?_;obtain⟨VZ,O,h⟩:=aa h;refine gb (cy (t:=Tr) rfl Jr iT O) ?_;obtain⟨pq,M,h⟩:=aa h;refine gb (cy (t:=Ti) rfl Bl cx M) ?_;refine ga (au (t:=Ti) rfl cx rfl) ?_;refine gb (gx rfl) ?_;refine pt (nl ?_);exact jz ((),decide (pq=0)) h [0,1]
       .replace h:=cY (vb hb) h;iterate 7 refine gn ?_
        refine pf (nl ?_);exact jz ((),false) h [0,1]
      .refine cv h (λh=>?_) (λh=>?_)
       .refine sr (cq (nt (ax (br (ba (br (ba (be ?_))))))));obtain rfl:=hR _ h;exact aP () [_] 2 ⟨rfl,trivial⟩ rfl
       .refine bf (aO (tn (ab ?_)));obtain⟨mw,J,h⟩:=aa h;refine jb (bp rfl J) ?_;refine mq (nl ?_);exact jz ((),mw) h [0,1]
     .refine d5 (bv (bv (cu (bn ?_))));exact jz ((),()) h [0,1]
   .refine ab (mq ?_);obtain⟨mc,E,h⟩:=aa h;refine jb (bp rfl E) ?_;refine aq (nl ?_);exact jz ((),mc) h [0,1]
  .refine xa ?_;exact jz ((),()) h [0,1]
 .
  refine sr (cq (nt (ax ?_)));cases h;exact aP () [_] 2 ⟨rfl,trivial⟩ rfl
def nz(k:Nat)(a0:Int)(a1:ae)(a2:Int):Option Bool:=
 (je k a1 a0 a2).bind λr1=>
 some r1
theorem tN(k:Nat)(a0:Int)(a1:ae)(c z_a1 j:Nat)(a2:Int)(e:Nat)(r:Bool)(h:nz k a0 a1 a2=some r):
 bR (dJ Tryz.prog) 84 [.eq (.int .u8 a0),Pt j,Pt e] [.obj c 125 (aI a1 z_a1),.inv z_a1 (bD k a1),.obj j 72 (Pt c),.obj e 3 (I a2)] (λ_:Unit=>(bM [.eq (.bool r)],[.obj c 125 (aI a1 z_a1),.inv z_a1 (bD k a1),.obj j 72 (Pt c),.obj e 3 (I a2)])):=by
 unfold nz at h
 replace h:=bh h
 refine bR.of 9 Tryz.func84 rfl Tryz.ntmps84 rfl λS w0=>?_
 refine sr ?_
 refine cq ?_
 refine nt ?_
 refine sr ?_
 refine fr 2 ?_
 refine lo BD ?_
 refine mq ?_
 refine fr 3 ?_
 refine lo cx ?_
 obtain⟨r1,l,h⟩:=aa h
 have n:=oK k a1 c z_a1 a0 a2 r1 l
 refine fr 3 ?_
 refine fr 3 ?_
 refine aN (Δ:=[_,_]) (F:=_) (λ_ _ _=>ag rfl _) rfl rfl (aS [.tmp 5,.tmp 6,.tmp 7] rfl rfl UJ rfl n) ⟨rfl,rfl,rfl,trivial⟩ λ_=>?_
 refine aq ?_
 refine nt ?_
 refine ax ?_
 refine bF (SE.fin (Γ':=[(4,_)]) [0,1,3,2] ⟨rfl,trivial⟩ rfl) ?_
 cases h
 exact aP () [_] 4 ⟨rfl,trivial⟩ rfl
def eT(k:Nat)(a0:(List Int))(a1_0:ae)(a1_1:Int):Nat->Int->Option (Except Int Unit)
 |0,_=>none
 |n+1,y3=>
  if y3 < (a0.length:Int) then((aR a0 y3).bind λx5=>
  (nz k x5 a1_0 a1_1).bind λr6=>
  if r6=true then(some (.error y3)) else((ck (y3+1)).bind λx7=>
  eT k a0 a1_0 a1_1 n x7)) else(some (.ok ()))
def iW(k:Nat)(a0:(List Int))(a1_0:ae)(a1_1:Int):Option Int:=
 bE (α:=Unit) (eT k a0 a1_0 a1_1 k 0) (some) λ_=>
 some (-1:Int)
theorem ov(k:Nat)(a0:(List Int))(a1_0:ae)(b_a1_0 z_a1_0 c_a1_0:Nat)(a1_1:Int)(c_a1_1:Nat)(r:Int)(h:iW k a0 a1_0 a1_1=some r):
 bR (dJ Tryz.prog) 114 [.rep (.slice (.int .u8)) a0,.eq (.func (.func 84) #[] #[(Pv c_a1_0),(Pv c_a1_1)])] [.obj b_a1_0 125 (aI a1_0 z_a1_0),.inv z_a1_0 (bD k a1_0),.obj c_a1_0 72 (Pt b_a1_0),.obj c_a1_1 3 (I a1_1)] (λ_:Unit=>(bM [I r],[.obj b_a1_0 125 (aI a1_0 z_a1_0),.inv z_a1_0 (bD k a1_0),.obj c_a1_0 72 (Pt b_a1_0),.obj c_a1_1 3 (I a1_1)])):=by
 unfold iW at h
 replace h:=bh h
 refine bR.of 19 Tryz.func114 rfl Tryz.ntmps114 rfl λS w0=>?_
 refine sr ?_
 refine cq ?_
 refine nt ?_
 refine dK (Z:=Unit) (α:=Unit) (λz2 x1=>[]) (λz2 x1=>[.obj b_a1_0 125 (aI a1_0 z_a1_0),.inv z_a1_0 (bD k a1_0),.obj c_a1_0 72 (Pt b_a1_0),.obj c_a1_1 3 (I a1_1)]) (λe=>e=r) h (λe h=>Option.some.inj h) (λK hR h=>?_) (λz2 x1 h=>?_)
 .
  refine sr (mq ?_);refine ol xj ?_;refine eH rfl ?_;refine nt (ai (aL (λz4 y3=>[(0,.rep (.slice (.int .u8)) a0),(1,.eq (.func (.func 84) #[] #[(Pv c_a1_0),(Pv c_a1_1)])),(7,I (a0.length:Int)),(8,I y3)]) (λz4 y3=>[.obj c_a1_0 72 (Pt b_a1_0),.obj b_a1_0 125 (aI a1_0 z_a1_0),.obj c_a1_1 3 (I a1_1),.inv z_a1_0 (bD k a1_0)]) (eT k a0 a1_0 a1_1) k () 0 (λ_=>rfl) h (SE.fin [2,0,3,1] ⟨rfl,rfl,rfl,rfl,trivial⟩ rfl) (λn z4 y3 h=>?_)));unfold eT at h;refine sr (jb (bN rfl) ?_);refine nt (aj (ci h (λh=>?_) (λh=>?_)))
  .refine sk (aj (ai (sr (mq ?_))));refine aq (nt (sr ?_));iterate 3 refine mq ?_
   obtain⟨x5,j,h⟩:=aa h;refine jb (aX (t:=(.int .u8)) rfl xj oh j) ?_;refine ja (au (t:=(.int .u8)) rfl oh rfl) ?_;obtain⟨r6,l,h⟩:=aa h;refine fr 2 ?_;refine fr 1 ?_;refine fr 3 ?_;refine fr 3 ?_;refine aN (Δ:=[_,_,_,_]) (F:=_) (λ_ _ _=>ag rfl _) rfl rfl (mR (fs:=[]) (cs:=[(Pv c_a1_0),(Pv c_a1_1)]) (ags:=[.eq (.int .u8 x5)]) [.tmp 15] rfl rfl UK rfl (tN k x5 a1_0 b_a1_0 z_a1_0 c_a1_0 a1_1 c_a1_1 r6 l)) ⟨rfl,rfl,trivial⟩ λ_=>?_;refine nt (cv h (λh=>?_) (λh=>?_))
   .refine sr (mq ?_);refine aq (nt (ax (br (ba (be ?_)))));obtain rfl:=hR _ h;exact aP () [_] 4 ⟨rfl,trivial⟩ rfl
   .refine bf (aO (tn (ab ?_)));obtain⟨x7,c,h⟩:=aa h;refine jb (bp rfl c) ?_;refine mq (nl ?_);exact jz ((),x7) h [2,0,3,1]
  .refine xa ?_;exact jz ((),()) h [1,3,0,2]
 .
  refine sr (cq (nt (ax ?_)));cases h;exact aP () [_] 4 ⟨rfl,trivial⟩ rfl
def eU(k:Nat)(a0:(List Int))(a1_0:ae)(a1_1:Int):Option Bool:=
 (iW k a0 a1_0 a1_1).bind λr1=>
 some (decide (0≤r1))
theorem mL(k:Nat)(a0:(List Int))(a1_0:ae)(b_a1_0 z_a1_0 c_a1_0:Nat)(a1_1:Int)(c_a1_1:Nat)(r:Bool)(h:eU k a0 a1_0 a1_1=some r):
 bR (dJ Tryz.prog) 86 [.rep (.slice (.int .u8)) a0,.eq (.func (.func 84) #[] #[(Pv c_a1_0),(Pv c_a1_1)])] [.obj b_a1_0 125 (aI a1_0 z_a1_0),.inv z_a1_0 (bD k a1_0),.obj c_a1_0 72 (Pt b_a1_0),.obj c_a1_1 3 (I a1_1)] (λ_:Unit=>(bM [.eq (.bool r)],[.obj b_a1_0 125 (aI a1_0 z_a1_0),.inv z_a1_0 (bD k a1_0),.obj c_a1_0 72 (Pt b_a1_0),.obj c_a1_1 3 (I a1_1)])):=by
 unfold eU at h
 replace h:=bh h
 refine bR.of 9 Tryz.func86 rfl Tryz.ntmps86 rfl λS w0=>?_
 refine sr ?_
 refine cq ?_
 refine nt ?_
 refine sr ?_
 iterate 2 refine mq ?_
 obtain⟨r1,c,h⟩:=aa h
 have e:=ov k a0 a1_0 b_a1_0 z_a1_0 c_a1_0 a1_1 c_a1_1 r1 c
 refine fr 3 ?_
 refine fr 3 ?_
 refine fr 3 ?_
 refine fr 3 ?_
 refine aN (Δ:=[_,_,_,_]) (F:=_) (λ_ _ _=>ag rfl _) rfl rfl (aS [.tmp 5,.tmp 6] rfl rfl SO rfl e) ⟨rfl,rfl,trivial⟩ λ_=>?_
 refine jb (jt rfl) ?_
 refine aq ?_
 refine nt ?_
 refine ax ?_
 cases h
 exact aP () [_] 4 ⟨rfl,trivial⟩ rfl
def qB(k:Nat)(a0:ae)(a1:Int):Option ((List Int)×Int):=
 (iL k a0 ([]:(List Int)) [a1] ([]:(List Int))).bind λr3=>
 fF r3.1 (if¬(r3.2.2=0) then(some (([]:(List Int)),r3.2.2)) else(none)) (λq4=>if¬(r3.2.2=0) then(some (([]:(List Int)),r3.2.2)) else((jU k (lm (λ(c:(List Int)) (e:Int)=>
  (nv k a0 a1 e).bind λr=>
  fF r (none) (λs=>(eU k r3.2.1 s a1).bind λn=>
  if¬(n=true) then((cP (bW (length c+length [e]))).bind λ_=>
  some (c++[e],true)) else(some (c,true))))) a0.1 (([]:(List Int)),false)).bind λh=>
 if h.2=true then(none) else((qy k h.1).bind λl=>
 (fU k l).bind λj=>
 some (j,0))))
theorem vY(k:Nat)(a0:ae)(a1:Int)(r:(List Int)×Int)(h:qB k a0 a1=some r):
 bR (dJ Tryz.prog) 50 [.rep an a0,I a1] [] (λ_:Unit=>(bM [.rep Tl r.1,I r.2],[])):=by
 unfold qB at h
 replace h:=bh h
 refine vB 44 Tryz.func50 rfl Tryz.ntmps50 rfl λS w0=>?_
 refine sr ?_
 refine bx λb1=>?_
 refine bx λb2=>?_
 refine cq ?_
 refine cq ?_
 refine nt ?_
 refine sr ?_
 refine fr 1 ?_
 refine lo gC ?_
 refine fr 1 ?_
 refine lo cx ?_
 refine ja (bj (t:=Ti) [(.tmp 15,_)] [a1] rfl rfl dL (.cons rfl .int .nil) rfl rfl) ?_
 obtain⟨r3,VZ,h⟩:=aa h
 have y:=kJ k a0 ([]:(List Int)) [a1] ([]:(List Int)) r3 VZ
 rcases hr:r3.1 with _ |q4
 .
  rw [hr] at h y;replace h:=tR h;refine aN (Δ:=[]) (F:=_) (λ_ _ _=>ag rfl _) rfl rfl (bJ (N:=[(.tmp 14,.rep an a0),(.const (.slice none 0 0),.eq (.slice none 0 0)),(.tmp 16,.rep Tl [a1]),(.const (.slice none 0 0),.eq (.slice none 0 0))]) (aS [.tmp 14,.const (.slice none 0 0),.tmp 16,.const (.slice none 0 0)] rfl rfl Aw rfl y) λ_ _ _ hn=>⟨hn.1,(aA (t:=Tl) (x:=([]:(List Int))) .nil rfl rfl hn.2.1),hn.2.2.1,(aA (t:=Tl) (x:=([]:(List Int))) .nil rfl rfl hn.2.2.2.1),trivial⟩) ⟨rfl,rfl,rfl,rfl,trivial⟩ λ_=>?_;refine mq ?_;refine xr ?_;refine xr ?_;refine xr ?_;refine aW rfl rfl rfl (bb rfl J9 Nb) trivial λb5=>?_;refine aq ?_;refine aJ rfl rfl (aE rfl xz rfl rfl rfl) ⟨rfl,rfl,trivial⟩ ?_;refine aq (nt (aj (sr ?_)));refine mq ?_;refine jb (dZ rfl) ?_;refine nt (cn h (λh=>?_) (λh=>?_))
  .refine sr (mq ?_);refine cq ?_;refine aq (nt (rx ?_));refine bF (eg (t:=Tl) (x:=([]:(List Int))) 4 rfl .nil rfl rfl) ?_;refine A4 ?_;cases h;exact rb
  .cases h
 .
  rw [hr] at h y;replace h:=tQ h;refine aN (Δ:=[]) (F:=_) (λ_ _ _=>ag rfl _) rfl rfl (bJ (N:=[(.tmp 14,.rep an a0),(.const (.slice none 0 0),.eq (.slice none 0 0)),(.tmp 16,.rep Tl [a1]),(.const (.slice none 0 0),.eq (.slice none 0 0))]) (aS [.tmp 14,.const (.slice none 0 0),.tmp 16,.const (.slice none 0 0)] rfl rfl Aw rfl y) λ_ _ _ hn=>⟨hn.1,(aA (t:=Tl) (x:=([]:(List Int))) .nil rfl rfl hn.2.1),hn.2.2.1,(aA (t:=Tl) (x:=([]:(List Int))) .nil rfl rfl hn.2.2.2.1),trivial⟩) ⟨rfl,rfl,rfl,rfl,trivial⟩ λz6=>?_;refine mq ?_;refine xr ?_;refine xr ?_;refine xr ?_;refine aW rfl rfl rfl (bb rfl J9 Nb) trivial λb7=>?_;refine aq ?_;refine aJ rfl rfl (aE rfl xz rfl rfl rfl) ⟨rfl,rfl,trivial⟩ ?_;refine aq (nt (aj (sr ?_)));refine mq ?_;refine jb (dZ rfl) ?_;refine nt (cn h (λh=>?_) (λh=>?_))
  .refine sr (mq ?_);refine cq ?_;refine aq (nt (rx ?_));refine bF (eg (t:=Tl) (x:=([]:(List Int))) 4 rfl .nil rfl rfl) ?_;refine A4 ?_;cases h;exact rb
  .refine sk (sr (aW rfl rfl rfl (bb rfl J9 Nb) trivial λb8=>?_));refine nt (aj (sr (fl gr ?_)));refine fr 5 ?_;refine lo cx ?_;refine aW rfl rfl rfl (ay [.tmp 25] rfl rfl Sl rfl (rC a0.1)) ⟨rfl,trivial⟩ λb9=>?_;refine nt (ai (iO (SE.nil 73 (.int .u8)) ?_));refine cE 7 rfl ?_;refine cE 7 rfl ?_;refine cE 7 rfl ?_;refine cE 7 rfl ?_;refine cE 4 rfl ?_;refine cE 7 rfl ?_;refine cE 7 rfl ?_;refine cE 7 rfl ?_;obtain⟨u,pq,h⟩:=aa h;refine nK (Δ:=[.obj b9 3 (I a0.1),.obj b1 26 (.rep an a0),.obj b8 76 (.eq (.slice none 0 0)),.sl (.slice none 0 0) 73 (.int .u8) ([]:(List Int)),.obj b7 76 (.rep (.slice (.int .u8)) r3.2.1),.obj z6.1 125 (aI q4 z6.2),.inv z6.2 (bD k q4),.obj b2 3 (I a1)]) (F:=[]) (X:=Value) (J:=λ_=>LZ u.2) (E:=λc=>[.obj b9 3 (I a0.1),.obj b1 26 (.rep an a0),.obj b8 76 (.eq c),.sl c 73 (.int .u8) u.1,.obj b7 76 (.rep (.slice (.int .u8)) r3.2.1),.obj z6.1 125 (aI q4 z6.2),.inv z6.2 (bD k q4),.obj b2 3 (I a1)]) (r0:=λ_=>.tup .any) rfl rfl On (λrec hp ha hb hs hpe hN hv l=>?_) (λdl c=>pZ (λhj=>?_) (λhj=>?_))
   .rcases rec with⟨st0,pe0,fn0,tm0,ps0,as0,bd0,df0⟩;dsimp only at hp ha hb hs hpe hN hv;subst hp hs hpe;have vN:yJ tm0 [(2,Pt b1),(3,Pt b2),(7,Pt b7),(9,Pt b8)]:=⟨congrArg A.eq (hv 2 _ rfl).symm,congrArg A.eq (hv 3 _ rfl).symm,congrArg A.eq (hv 7 _ rfl).symm,congrArg A.eq (hv 9 _ rfl).symm,trivial⟩;refine bR.pick (M:=(dJ Tryz.prog)) [1,0,2,3,4,5,6,7,8] [1,0,2,3,4,5,6,7,8] (oM (λ(c:Value) (q:(List Int)×Bool)=>[.raw l (.loop (iY ⟨.ready,none,fn0,tm0, #[27],as0,bd0,df0⟩ (LZ q.2))),.obj b1 26 (.rep an a0),.obj b8 76 (.eq c),.sl c 73 (.int .u8) q.1,.obj b7 76 (.rep (.slice (.int .u8)) r3.2.1),.obj z6.1 125 (aI q4 z6.2),.inv z6.2 (bD k q4),.obj b2 3 (I a1)]) l (lm (λ(n:(List Int)) (j:Int)=>
    (nv k a0 a1 j).bind λs=>
    fF s (none) (λO=>(eU k r3.2.1 O a1).bind λD=>
    if¬(D=true) then((cP (bW (length n+length [j]))).bind λ_=>
    some (n++[j],true)) else(some (n,true))))) k a0.1 b9 (λc q p r' h=>?_) (.slice none 0 0) (([]:(List Int)),false) u pq) rfl (λ_=>rfl) (λ_=>rfl)
    obtain⟨rq,hq,h2,rfl⟩:=qc h;obtain⟨n,b5⟩:=q;obtain rfl:b5=false:=hq;replace h:=bh h2;obtain⟨j,hpv⟩:∃x,x=p:=⟨_,rfl⟩;subst hpv;refine YT.pick (R':=(λc:Value=>(.eq (.bool rq.2),[.raw l (.loop (iY ⟨.ready,none,fn0,tm0, #[27],as0,bd0,df0⟩ (LZ (!rq.2)))),.obj b1 26 (.rep an a0),.obj b8 76 (.eq c),.sl c 73 (.int .u8) rq.1,.obj b7 76 (.rep (.slice (.int .u8)) r3.2.1),.obj z6.1 125 (aI q4 z6.2),.inv z6.2 (bD k q4),.obj b2 3 (I a1)]))) [0,1,2,3,4,5,6,7] [0,1,2,3,4,5,6,7] (C5 ha hb (N:=44) (Γ:=[(2,Pt b1),(3,Pt b2),(7,Pt b7),(9,Pt b8)]) rfl hN (by decide) vN (λS w=>?_)) rfl (λ_=>rfl) (λ_=>rfl);refine ab (aq (nl ?_));refine vy rfl rfl ?_;refine ai (sr (fr 1 ?_));refine lo gC ?_;refine fr 7 ?_;refine lo cx ?_;refine mq ?_;obtain⟨s,mw,h⟩:=aa h;have e:=vW k a0 a1 j s mw;rcases hr:s with _ |O
    .rw [hr] at h e;replace h:=tR h;refine aN (Δ:=[]) (F:=_) (λ_ _ _=>ag rfl _) rfl rfl (ay [.tmp 28,.tmp 29,.tmp 30] rfl rfl Si rfl e) ⟨rfl,rfl,rfl,trivial⟩ λ_=>?_;cases h
    .rw [hr] at h e;replace h:=tQ h;refine aN (Δ:=[]) (F:=_) (λ_ _ _=>ag rfl _) rfl rfl (ay [.tmp 28,.tmp 29,.tmp 30] rfl rfl Si rfl e) ⟨rfl,rfl,rfl,trivial⟩ λQ=>?_;refine aW rfl rfl rfl (bb rfl OG Qj) trivial λqt=>?_;refine aJ rfl rfl (aE rfl BD rfl rfl rfl) ⟨rfl,rfl,trivial⟩ ?_;refine nt (sr (jb (oG [] [.tmp 11,.tmp 3] [] [(Pv qt),(Pv b2)] rfl rfl rfl) ?_));refine aq (nt (sr ?_));refine fr 8 ?_;refine lo xz ?_;refine mq ?_;obtain⟨D,mc,h⟩:=aa h;refine fr 4 ?_;refine fr 2 ?_;refine fr 4 ?_;refine fr 4 ?_;refine aN (Δ:=[_,_,_,_]) (F:=_) (λ_ _ _=>ag rfl _) rfl rfl (aS [.tmp 33,.tmp 34] rfl rfl UI rfl (mL k r3.2.1 O Q.1 Q.2 qt a1 b2 D mc)) ⟨rfl,rfl,trivial⟩ λ_=>?_;refine ja (ic rfl) ?_;refine nt (cw h (λh=>?_) (λh=>?_))
     .refine ab (fr 7 ?_);refine lo xz ?_;refine mq ?_;refine ja (bj (t:=(.int .u8)) [(.tmp 38,_)] [j] rfl rfl KX (.cons rfl .int .nil) rfl rfl) ?_;obtain⟨V0,Y,h⟩:=aa h;refine fr 8 ?_;refine eG rfl rfl rfl (cO rfl rfl KX (am Y)) ⟨rfl,rfl,trivial⟩ λzz=>?_;refine tf λo22=>?_;refine fr 1 ?_;refine aJ rfl rfl (aE rfl xz o22 rfl rfl) ⟨rfl,rfl,trivial⟩ ?_;refine aF (aO (aD 5 rfl ?_));refine aD 10 rfl ?_;refine aD 10 rfl ?_;refine aD 8 rfl ?_;refine aD 5 rfl ?_;refine aD 5 rfl ?_;refine aD 9 rfl ?_;refine aD 10 rfl ?_;cases h;exact kZ zz 7 rfl
     .refine bf (aO (aD 3 rfl ?_));refine aD 10 rfl ?_;refine aD 10 rfl ?_;refine aD 6 rfl ?_;refine aD 10 rfl ?_;refine aD 10 rfl ?_;refine aD 9 rfl ?_;refine aD 10 rfl ?_;cases h;exact kZ c 7 rfl
   .replace h:=cY (N6 hj) h;refine aO (tn (sr (fr 3 ?_)));refine lo xz ?_;obtain⟨U,gw,h⟩:=aa h;refine fr 4 ?_;refine kb (jE (N:=[(.tmp 41,.eq c),(.func 88,.eq (.func (.func 88) #[] #[]))]) (ay [.tmp 41,.func 88] rfl rfl UH rfl (vX k u.1 U gw)) (λ_ _ _ hv hn=>⟨(lend hn.1 hv),hn.2.1,trivial⟩) (λ_=>⟨rfl,oQ⟩)) ?_;obtain⟨zM,Z,h⟩:=aa h;refine ja (ay [.tmp 42] rfl rfl P3 rfl (kw k U zM Z)) ?_;refine aq ?_;refine cq (nt (ax ?_));refine aD 2 rfl ?_;refine EE ?_;cases h;exact rb
   .replace h:=eL (N4 hj) h;cases h
def rG(k:Nat):Option Bool:=
 (iN k ([]:(List bq))).bind λr1=>
 (jx k r1 [0]).bind λr2=>
 (iN k ([]:(List bq))).bind λr3=>
 (iG k r3).bind λr4=>
 (iN k ([]:(List bq))).bind λr5=>
 (sJ k r5 2).bind λr6=>
 (iN k ([]:(List bq))).bind λr8=>
 (sK k r8 [0] 3).bind λr9=>
 (iN k ([]:(List bq))).bind λu=>
 (uM k u 2).bind λc=>
 (iN k ([]:(List bq))).bind λs=>
 (qB k s 2).bind λe=>
 ((if r2.2=0 then(if r4.2=0 then(if r6.2=0 then(if r9.2=0 then(if c.2.2=0 then(if e.2=0 then(if r6.1=(1,3) then(if c.1=2 then(if c.2.1=2 then((jL k r2.1 [[1,(-1:Int),(-1:Int),(-1:Int)],[2,0,(-1:Int),(-1:Int)],[3,1,(-1:Int),(-1:Int)],[3,2,0,(-1:Int)],[(-1:Int),3,1,0]]).bind λr=>
 if r=true then((jL k r4.1 [[0],[0,1],[1]]).bind λn=>
 if n=true then((fi k r9.1 [0,1,3]).bind λl=>
 if l=true then((fi k e.1 [1,2]).bind λj=>
 some j) else(some false)) else(some false)) else(some false)) else(some false)) else(some false)) else(some false)) else(some false)) else(some false)) else(some false)) else(some false)) else(some false)) else(some false)):Option (Bool)).bind λh=>
 some h
theorem Aj(k:Nat)(r:Bool)(h:rG k=some r):
 bR (dJ Tryz.prog) 16 [] [] (λ_:Unit=>(bM [.eq (.bool r)],[])):=by
 unfold rG at h
 replace h:=bh h
 refine bR.of 110 Tryz.func16 rfl Tryz.ntmps16 rfl λS w0=>?_
 refine sr ?_
 refine cq ?_
 refine nt ?_
 refine sr ?_
 obtain⟨r1,V4,h⟩:=aa h
 have Wc:=g9 k ([]:(List bq)) r1 V4
 refine ja (bJ (N:=[(.const (.slice none 0 0),.eq (.slice none 0 0))]) (ay [.const (.slice none 0 0)] rfl rfl Ft rfl Wc) λ_ _ _ hn=>⟨(aA (t:=(.slice bz)) (x:=([]:(List bq))) .nil rfl rfl hn.1),trivial⟩) ?_
 refine ja (bj (t:=Ti) [(.const (.int .i64 (0)),_)] [0] rfl rfl dL (.cons rfl .int .nil) rfl rfl) ?_
 obtain⟨r2,V3,h⟩:=aa h
 have Wb:=pS k r1 [0] r2 V3
 refine jb (aS [.tmp 15,.tmp 16] rfl rfl SK rfl Wb) ?_
 refine mq ?_
 refine xr ?_
 refine xr ?_
 refine aq ?_
 refine aq ?_
 refine nt ?_
 refine sr ?_
 obtain⟨r3,V2,h⟩:=aa h
 have Wa:=g9 k ([]:(List bq)) r3 V2
 refine ja (bJ (N:=[(.const (.slice none 0 0),.eq (.slice none 0 0))]) (ay [.const (.slice none 0 0)] rfl rfl Ft rfl Wa) λ_ _ _ hn=>⟨(aA (t:=(.slice bz)) (x:=([]:(List bq))) .nil rfl rfl hn.1),trivial⟩) ?_
 obtain⟨r4,V0,h⟩:=aa h
 have V9:=pT k r3 r4 V0
 refine ja (aS [.tmp 21] rfl rfl SQ rfl V9) ?_
 refine mq ?_
 refine xr ?_
 refine xr ?_
 refine aq ?_
 refine aq ?_
 refine nt ?_
 refine sr ?_
 obtain⟨r5,VZ,h⟩:=aa h
 have V8:=g9 k ([]:(List bq)) r5 VZ
 refine ja (bJ (N:=[(.const (.slice none 0 0),.eq (.slice none 0 0))]) (ay [.const (.slice none 0 0)] rfl rfl Ft rfl V8) λ_ _ _ hn=>⟨(aA (t:=(.slice bz)) (x:=([]:(List bq))) .nil rfl rfl hn.1),trivial⟩) ?_
 obtain⟨r6,zM,h⟩:=aa h
 have V7:=xY k r5 2 r6 zM
 refine jb (aS [.tmp 26,.const (.int .i64 (2))] rfl rfl Vb rfl V7) ?_
 refine mq ?_
 refine xr ?_
 refine xr ?_
 refine aW rfl rfl rfl (bb rfl Bo SY) trivial λb7=>?_
 refine aJ rfl rfl (aE rfl vO rfl rfl rfl) ⟨rfl,rfl,trivial⟩ ?_
 refine aq ?_
 refine nt ?_
 refine sr ?_
 obtain⟨r8,zz,h⟩:=aa h
 have V6:=g9 k ([]:(List bq)) r8 zz
 refine ja (bJ (N:=[(.const (.slice none 0 0),.eq (.slice none 0 0))]) (ay [.const (.slice none 0 0)] rfl rfl Ft rfl V6) λ_ _ _ hn=>⟨(aA (t:=(.slice bz)) (x:=([]:(List bq))) .nil rfl rfl hn.1),trivial⟩) ?_
 refine ja (bj (t:=Ti) [(.const (.int .i64 (0)),_)] [0] rfl rfl dL (.cons rfl .int .nil) rfl rfl) ?_
 obtain⟨r9,qt,h⟩:=aa h
 have V5:=ya k r8 [0] 3 r9 qt
 refine jc (aS [.tmp 31,.tmp 32,.const (.int .i64 (3))] rfl rfl UX rfl V5) ?_
 refine mq ?_
 refine xr ?_
 refine xr ?_
 refine aq ?_
 refine aq ?_
 refine nt ?_
 refine sr ?_
 obtain⟨u,O,h⟩:=aa h
 have Y:=g9 k ([]:(List bq)) u O
 refine ja (bJ (N:=[(.const (.slice none 0 0),.eq (.slice none 0 0))]) (ay [.const (.slice none 0 0)] rfl rfl Ft rfl Y) λ_ _ _ hn=>⟨(aA (t:=(.slice bz)) (x:=([]:(List bq))) .nil rfl rfl hn.1),trivial⟩) ?_
 obtain⟨pq,M,h⟩:=aa h
 have X:=zX k u 2 pq M
 refine jb (aS [.tmp 37,.const (.int .i64 (2))] rfl rfl UW rfl X) ?_
 refine mq ?_
 refine xr ?_
 refine xr ?_
 refine xr ?_
 refine aq ?_
 refine aq ?_
 refine aq ?_
 refine nt ?_
 refine sr ?_
 obtain⟨n,J,h⟩:=aa h
 have U:=g9 k ([]:(List bq)) n J
 refine ja (bJ (N:=[(.const (.slice none 0 0),.eq (.slice none 0 0))]) (ay [.const (.slice none 0 0)] rfl rfl Ft rfl U) λ_ _ _ hn=>⟨(aA (t:=(.slice bz)) (x:=([]:(List bq))) .nil rfl rfl hn.1),trivial⟩) ?_
 obtain⟨l,I,h⟩:=aa h
 have Q:=vY k n 2 l I
 refine jb (aS [.tmp 43,.const (.int .i64 (2))] rfl rfl UV rfl Q) ?_
 refine mq ?_
 refine xr ?_
 refine xr ?_
 refine aq ?_
 refine aq ?_
 refine nt ?_
 refine aM (Z:=Unit) (α:=Bool) (λe c=>[(0,.eq (.bool c))]) (λe c=>[]) h (λK h=>?_) (λe c h=>?_)
 .
  refine ab (mq ?_);refine jb (gx rfl) ?_;refine mq ?_;refine cQ (s:=49) rfl (λhb=>?_) (λhb=>?_)
  .replace h:=eL (va hb) h;refine gm ?_;refine gb (gx rfl) ?_;refine pt ?_;refine mq ?_;refine cQ (s:=53) rfl (λhb=>?_) (λhb=>?_)
   .replace h:=eL (va hb) h;refine gm ?_;refine gb (gx rfl) ?_;refine pt ?_;refine mq ?_;refine cQ (s:=57) rfl (λhb=>?_) (λhb=>?_)
    .replace h:=eL (va hb) h;refine gm ?_;refine gb (gx rfl) ?_;refine pt ?_;refine mq ?_;refine cQ (s:=61) rfl (λhb=>?_) (λhb=>?_)
     .replace h:=eL (va hb) h;refine gm ?_;refine gb (gx rfl) ?_;refine pt ?_;refine mq ?_;refine cQ (s:=65) rfl (λhb=>?_) (λhb=>?_)
      .replace h:=eL (va hb) h;refine gm ?_;refine gb (gx rfl) ?_;refine pt ?_;refine mq ?_;refine cQ (s:=69) rfl (λhb=>?_) (λhb=>?_)
       .replace h:=eL (va hb) h;refine nJ rfl rfl rfl rfl rfl rfl (aC rfl vO (t7) rfl) ⟨rfl,trivial⟩ ?_;refine gb (eh [(0,.const (.int .i64 (1)),_),(1,.const (.int .i64 (3)),_)] rfl HG Bo AW (jO ⟨rfl,rfl,trivial⟩) rfl) ?_;refine eF (eg (t:=bV) (x:=(1,3)) 71 rfl (.agg (.pair .int .int)) trivial rfl) ?_;refine gb (PD rfl UD rfl) ?_;refine pt ?_;refine mq ?_;refine cQ (s:=74) rfl (λhb=>?_) (λhb=>?_)
        .replace h:=eL (va hb) h;refine gm ?_;refine gb (gx rfl) ?_;refine pt ?_;refine mq ?_;refine cQ (s:=78) rfl (λhb=>?_) (λhb=>?_)
         .replace h:=eL (va hb) h;refine gm ?_;refine gb (gx rfl) ?_;refine pt ?_;refine mq ?_;refine cQ (s:=82) rfl (λhb=>?_) (λhb=>?_)
          .replace h:=eL (va hb) h;refine gm ?_;refine mA rfl rfl rfl rfl rfl rfl (bj (t:=Ti) [(.const (.int .i64 (1)),_),(.const (.int .i64 (-1)),_),(.const (.int .i64 (-1)),_),(.const (.int .i64 (-1)),_)] [1,(-1:Int),(-1:Int),(-1:Int)] rfl rfl dL (.cons rfl .int (.cons rfl .int (.cons rfl .int (.cons rfl .int .nil)))) rfl rfl) ⟨rfl,rfl,rfl,rfl,trivial⟩ ?_;refine mA rfl rfl rfl rfl rfl rfl (bj (t:=Ti) [(.const (.int .i64 (2)),_),(.const (.int .i64 (0)),_),(.const (.int .i64 (-1)),_),(.const (.int .i64 (-1)),_)] [2,0,(-1:Int),(-1:Int)] rfl rfl dL (.cons rfl .int (.cons rfl .int (.cons rfl .int (.cons rfl .int .nil)))) rfl rfl) ⟨rfl,rfl,rfl,rfl,trivial⟩ ?_;refine mA rfl rfl rfl rfl rfl rfl (bj (t:=Ti) [(.const (.int .i64 (3)),_),(.const (.int .i64 (1)),_),(.const (.int .i64 (-1)),_),(.const (.int .i64 (-1)),_)] [3,1,(-1:Int),(-1:Int)] rfl rfl dL (.cons rfl .int (.cons rfl .int (.cons rfl .int (.cons rfl .int .nil)))) rfl rfl) ⟨rfl,rfl,rfl,rfl,trivial⟩ ?_;refine mA rfl rfl rfl rfl rfl rfl (bj (t:=Ti) [(.const (.int .i64 (3)),_),(.const (.int .i64 (2)),_),(.const (.int .i64 (0)),_),(.const (.int .i64 (-1)),_)] [3,2,0,(-1:Int)] rfl rfl dL (.cons rfl .int (.cons rfl .int (.cons rfl .int (.cons rfl .int .nil)))) rfl rfl) ⟨rfl,rfl,rfl,rfl,trivial⟩ ?_;refine mA rfl rfl rfl rfl rfl rfl (bj (t:=Ti) [(.const (.int .i64 (-1)),_),(.const (.int .i64 (3)),_),(.const (.int .i64 (1)),_),(.const (.int .i64 (0)),_)] [(-1:Int),3,1,0] rfl rfl dL (.cons rfl .int (.cons rfl .int (.cons rfl .int (.cons rfl .int .nil)))) rfl rfl) ⟨rfl,rfl,rfl,rfl,trivial⟩ ?_;refine mA rfl rfl rfl rfl rfl rfl (bj (t:=Tl) [(.tmp 84,_),(.tmp 85,_),(.tmp 86,_),(.tmp 87,_),(.tmp 88,_)] [[1,(-1:Int),(-1:Int),(-1:Int)],[2,0,(-1:Int),(-1:Int)],[3,1,(-1:Int),(-1:Int)],[3,2,0,(-1:Int)],[(-1:Int),3,1,0]] rfl rfl pM (.cons rfl .rep (.cons rfl .rep (.cons rfl .rep (.cons rfl .rep (.cons rfl .rep .nil))))) rfl rfl) ⟨rfl,rfl,rfl,rfl,rfl,trivial⟩ ?_;obtain⟨mw,F,h⟩:=aa h;refine gb (ay [.tmp 83,.tmp 89] rfl rfl Sr rfl (na k r2.1 [[1,(-1:Int),(-1:Int),(-1:Int)],[2,0,(-1:Int),(-1:Int)],[3,1,(-1:Int),(-1:Int)],[3,2,0,(-1:Int)],[(-1:Int),3,1,0]] mw F)) ?_;refine pt ?_;refine mq ?_;refine cQ (s:=92) rfl (λhb=>?_) (λhb=>?_)
           .replace h:=eL (N4 hb) h;refine gm ?_;refine ga (bj (t:=Ti) [(.const (.int .i64 (0)),_)] [0] rfl rfl dL (.cons rfl .int .nil) rfl rfl) ?_;refine gb (bj (t:=Ti) [(.const (.int .i64 (0)),_),(.const (.int .i64 (1)),_)] [0,1] rfl rfl dL (.cons rfl .int (.cons rfl .int .nil)) rfl rfl) ?_;refine ga (bj (t:=Ti) [(.const (.int .i64 (1)),_)] [1] rfl rfl dL (.cons rfl .int .nil) rfl rfl) ?_;refine gc (bj (t:=Tl) [(.tmp 94,_),(.tmp 95,_),(.tmp 96,_)] [[0],[0,1],[1]] rfl rfl pM (.cons rfl .rep (.cons rfl .rep (.cons rfl .rep .nil))) rfl rfl) ?_;obtain⟨mc,E,h⟩:=aa h;refine gb (ay [.tmp 93,.tmp 97] rfl rfl Sr rfl (na k r4.1 [[0],[0,1],[1]] mc E)) ?_;refine pt ?_;refine mq ?_;refine cQ (s:=100) rfl (λhb=>?_) (λhb=>?_)
            .replace h:=eL (N4 hb) h;refine gm ?_;refine gc (bj (t:=Ti) [(.const (.int .i64 (0)),_),(.const (.int .i64 (1)),_),(.const (.int .i64 (3)),_)] [0,1,3] rfl rfl dL (.cons rfl .int (.cons rfl .int (.cons rfl .int .nil))) rfl rfl) ?_;obtain⟨gw,D,h⟩:=aa h;refine gb (ay [.tmp 101,.tmp 102] rfl rfl MH rfl (iD k r9.1 [0,1,3] gw D)) ?_;refine pt ?_;refine mq ?_;refine cQ (s:=105) rfl (λhb=>?_) (λhb=>?_)
             .replace h:=eL (N4 hb) h;refine gm ?_;refine gb (bj (t:=Ti) [(.const (.int .i64 (1)),_),(.const (.int .i64 (2)),_)] [1,2] rfl rfl dL (.cons rfl .int (.cons rfl .int .nil)) rfl rfl) ?_;obtain⟨j,y,h⟩:=aa h;refine gb (ay [.tmp 106,.tmp 107] rfl rfl MH rfl (iD k l.1 [1,2] j y)) ?_;refine pt ?_;refine aq (nl ?_);exact jz ((),j) h []
             .replace h:=cY (N6 hb) h;iterate 3 refine gn ?_
              refine pf ?_;refine aq (nl ?_);exact jz ((),false) h []
            .replace h:=cY (N6 hb) h;iterate 3 refine gn ?_
             refine pf ?_;refine mq ?_;iterate 3 refine gn ?_
             refine pf ?_;refine aq (nl ?_);exact jz ((),false) h []
           .replace h:=cY (N6 hb) h;iterate 6 refine gn ?_
            refine pf ?_;refine mq ?_;iterate 3 refine gn ?_
            refine pf ?_;refine mq ?_;iterate 3 refine gn ?_
            refine pf ?_;refine aq (nl ?_);exact jz ((),false) h []
          .replace h:=cY (vb hb) h;iterate 8 refine gn ?_
           refine pf ?_;refine mq ?_;iterate 6 refine gn ?_
           refine pf ?_;refine mq ?_;iterate 3 refine gn ?_
           refine pf ?_;refine mq ?_;iterate 3 refine gn ?_
           refine pf ?_;refine aq (nl ?_);exact jz ((),false) h []
         .replace h:=cY (vb hb) h;iterate 2 refine gn ?_
          refine pf ?_;refine mq ?_;iterate 8 refine gn ?_
          refine pf ?_;refine mq ?_;iterate 6 refine gn ?_
          refine pf ?_;refine mq ?_;iterate 3 refine gn ?_
          refine pf ?_;refine mq ?_;iterate 3 refine gn ?_
          refine pf ?_;refine aq (nl ?_);exact jz ((),false) h []
        .replace h:=cY (vb hb) h;iterate 2 refine gn ?_
         refine pf ?_;refine mq ?_;iterate 2 refine gn ?_
         refine pf ?_;refine mq ?_;iterate 8 refine gn ?_
         refine pf ?_;refine mq ?_;iterate 6 refine gn ?_
         refine pf ?_;refine mq ?_;iterate 3 refine gn ?_
         refine pf ?_;refine mq ?_;iterate 3 refine gn ?_
         refine pf ?_;refine aq (nl ?_);exact jz ((),false) h []
       .replace h:=cY (vb hb) h;iterate 3 refine gn ?_
        refine pf ?_;refine mq ?_;iterate 2 refine gn ?_
        refine pf ?_;refine mq ?_;iterate 2 refine gn ?_
        refine pf ?_;refine mq ?_;iterate 8 refine gn ?_
        refine pf ?_;refine mq ?_;iterate 6 refine gn ?_
        refine pf ?_;refine mq ?_;iterate 3 refine gn ?_
        refine pf ?_;refine mq ?_;iterate 3 refine gn ?_
        refine pf ?_;refine aq (nl ?_);exact jz ((),false) h []
      .replace h:=cY (vb hb) h;iterate 2 refine gn ?_
       refine pf ?_;refine mq ?_;iterate 3 refine gn ?_
       refine pf ?_;refine mq ?_;iterate 2 refine gn ?_
       refine pf ?_;refine mq ?_;iterate 2 refine gn ?_
       refine pf ?_;refine mq ?_;iterate 8 refine gn ?_
       refine pf ?_;refine mq ?_;iterate 6 refine gn ?_
       refine pf ?_;refine mq ?_;iterate 3 refine gn ?_
       refine pf ?_;refine mq ?_;iterate 3 refine gn ?_
       refine pf ?_;refine aq (nl ?_);exact jz ((),false) h []
     .replace h:=cY (vb hb) h;iterate 2 refine gn ?_
      refine pf ?_;refine mq ?_;iterate 2 refine gn ?_
      refine pf ?_;refine mq ?_;iterate 3 refine gn ?_
      refine pf ?_;refine mq ?_;iterate 2 refine gn ?_
      refine pf ?_;refine mq ?_;iterate 2 refine gn ?_
      refine pf ?_;refine mq ?_;iterate 8 refine gn ?_
      refine pf ?_;refine mq ?_;iterate 6 refine gn ?_
      refine pf ?_;refine mq ?_;iterate 3 refine gn ?_
      refine pf ?_;refine mq ?_;iterate 3 refine gn ?_
      refine pf ?_;refine aq (nl ?_);exact jz ((),false) h []
    .replace h:=cY (vb hb) h;iterate 2 refine gn ?_
     refine pf ?_;refine mq ?_;iterate 2 refine gn ?_
     refine pf ?_;refine mq ?_;iterate 2 refine gn ?_
     refine pf ?_;refine mq ?_;iterate 3 refine gn ?_
     refine pf ?_;refine mq ?_;iterate 2 refine gn ?_
     refine pf ?_;refine mq ?_;iterate 2 refine gn ?_
     refine pf ?_;refine mq ?_;iterate 8 refine gn ?_
     refine pf ?_;refine mq ?_;iterate 6 refine gn ?_
     refine pf ?_;refine mq ?_;iterate 3 refine gn ?_
     refine pf ?_;refine mq ?_;iterate 3 refine gn ?_
     refine pf ?_;refine aq (nl ?_);exact jz ((),false) h []
   .replace h:=cY (vb hb) h;iterate 2 refine gn ?_
    refine pf ?_;refine mq ?_;iterate 2 refine gn ?_
    refine pf ?_;refine mq ?_;iterate 2 refine gn ?_
    refine pf ?_;refine mq ?_;iterate 2 refine gn ?_
    refine pf ?_;refine mq ?_;iterate 3 refine gn ?_
    refine pf ?_;refine mq ?_;iterate 2 refine gn ?_
    refine pf ?_;refine mq ?_;iterate 2 refine gn ?_
    refine pf ?_;refine mq ?_;iterate 8 refine gn ?_
    refine pf ?_;refine mq ?_;iterate 6 refine gn ?_
    refine pf ?_;refine mq ?_;iterate 3 refine gn ?_
    refine pf ?_;refine mq ?_;iterate 3 refine gn ?_
    refine pf ?_;refine aq (nl ?_);exact jz ((),false) h []
  .replace h:=cY (vb hb) h;iterate 2 refine gn ?_
   refine pf ?_;refine mq ?_;iterate 2 refine gn ?_
   refine pf ?_;refine mq ?_;iterate 2 refine gn ?_
   refine pf ?_;refine mq ?_;iterate 2 refine gn ?_
   refine pf ?_;refine mq ?_;iterate 2 refine gn ?_
   refine pf ?_;refine mq ?_;iterate 3 refine gn ?_
   refine pf ?_;refine mq ?_;iterate 2 refine gn ?_
   refine pf ?_;refine mq ?_;iterate 2 refine gn ?_
   refine pf ?_;refine mq ?_;iterate 8 refine gn ?_
   refine pf ?_;refine mq ?_;iterate 6 refine gn ?_
   refine pf ?_;refine mq ?_;iterate 3 refine gn ?_
   refine pf ?_;refine mq ?_;iterate 3 refine gn ?_
   refine pf ?_;refine aq (nl ?_);exact jz ((),false) h []
 .
  refine ax ?_;cases h;exact ra
def iM(k:Nat)(r2:ae×bO)(r5:(List (List Int))×Int):Nat->((List Int)×Int×Int×(List bq)×Int)->Option ((List bq)×(List Int)×Int×Int)
 |0,_=>none
 |n+1,c=>
  if 0 < c.2.2.2.2 then((im k (c.1,c.2.1,c.2.2.1) (r2.1.1,r2.1.2.1,r2.1.2.2.1,r2.1.2.2.2.1,r2.1.2.2.2.2.1,())).bind λe=>
  (aR r5.1 e.1.2.1).bind λl=>
  (aR l e.1.1).bind λh=>
  (cP (bW (length c.2.2.2.1+length [(e.1.1,e.1.2.1,decide (r2.1.2.2.1≤h))]))).bind λ_=>
  (ck (c.2.2.2.2 - 1)).bind λj=>
  iM k r2 r5 n (e.2.1,e.2.2.1,e.2.2.2,c.2.2.2.1++[(e.1.1,e.1.2.1,decide (r2.1.2.2.1≤h))],j)) else(some (c.2.2.2.1,c.1,c.2.1,c.2.2.1))
def mZ(k:Nat)(a0:bO):Option (ae×(List Int)×(List (List Int))×Bool×bO):=
 (jW k (a0.1,a0.2.1,a0.2.2) 4 4).bind λr2=>
 (jX k (r2.2.1,r2.2.2.1,r2.2.2.2) r2.1.1).bind λr4=>
 (jx k (r2.1.1,r2.1.2.1,r2.1.2.2.1,r2.1.2.2.2.1,r2.1.2.2.2.2.1,[]) r4.1).bind λr5=>
 ((if¬(r5.2=0) then(some true) else((mY k (r2.1.1,r2.1.2.1,r2.1.2.2.1,r2.1.2.2.2.1,r2.1.2.2.2.2.1,[]) r5.1).bind λr8=>
 some (!r8))):Option (Bool)).bind λx6=>
 if x6=true then(some ((r2.1.1,r2.1.2.1,r2.1.2.2.1,r2.1.2.2.2.1,r2.1.2.2.2.2.1,[]),([]:(List Int)),([]:(List (List Int))),false,(r4.2.1,r4.2.2.1,r4.2.2.2))) else((((cC k (r4.2.1,r4.2.2.1,r4.2.2.2) 4).bind λc=>
 iM k r2 r5 k (c.2.1,c.2.2.1,c.2.2.2,([]:(List bq)),c.1)):Option ((List bq)×(List Int)×Int×Int)).bind λx9=>
 some ((r2.1.1,r2.1.2.1,r2.1.2.2.1,r2.1.2.2.2.1,r2.1.2.2.2.2.1,x9.1),r4.1,r5.1,true,(x9.2.1,x9.2.2.1,x9.2.2.2)))
theorem Ai(k:Nat)(a0:bO)(c:Nat)(r:ae×(List Int)×(List (List Int))×Bool×bO)(h:mZ k a0=some r):
 bR (dJ Tryz.prog) 17 [Pt c] [.obj c 71 (.agg (.pair (.rep Tl a0.1) (.pair (I a0.2.1) (.eq (.int .u64 a0.2.2)))))] (λ_:Unit=>(bM [.rep an r.1,.rep Tl r.2.1,.rep (.slice Tl) r.2.2.1,.eq (.bool r.2.2.2.1)],[.obj c 71 (.agg (.pair (.rep Tl r.2.2.2.2.1) (.pair (I r.2.2.2.2.2.1) (.eq (.int .u64 r.2.2.2.2.2.2)))))])):=by
 unfold mZ at h
 replace h:=bh h
 refine bR.of 64 Tryz.func17 rfl Tryz.ntmps17 rfl λS w0=>?_
 refine sr ?_
 refine aW rfl rfl rfl (bb rfl yV FT) trivial λb1=>?_
 refine cq ?_
 refine cq ?_
 refine cq ?_
 refine nt ?_
 refine sr ?_
 refine mq ?_
 obtain⟨r2,mw,h⟩:=aa h
 have zz:=uS k (a0.1,a0.2.1,a0.2.2) c 4 4 r2 mw
 refine fr 1 ?_
 refine kc (ay [.tmp 12,.const (.int .i64 (4)),.const (.int .i64 (4))] rfl rfl U2 rfl zz) ?_
 refine aW rfl rfl rfl (bb rfl yV FT) trivial λb3=>?_
 refine aJ rfl rfl (aE rfl gC trivial rfl rfl) ⟨rfl,rfl,trivial⟩ ?_
 refine nt ?_
 refine sr ?_
 refine mq ?_
 refine fl gr ?_
 refine lo cx ?_
 obtain⟨r4,mc,h⟩:=aa h
 have qt:=uT k (r2.2.1,r2.2.2.1,r2.2.2.2) c r2.1.1 r4 mc
 refine fr 1 ?_
 refine kb (ay [.tmp 14,.tmp 16] rfl rfl U1 rfl qt) ?_
 refine aq ?_
 refine nt ?_
 refine sr ?_
 refine fr 1 ?_
 refine lo gC ?_
 refine mq ?_
 obtain⟨r5,gw,h⟩:=aa h
 have pq:=pS k (r2.1.1,r2.1.2.1,r2.1.2.2.1,r2.1.2.2.2.1,r2.1.2.2.2.2.1,[]) r4.1 r5 gw
 refine jb (bJ (N:=[(.tmp 19,.agg (.pair (I r2.1.1) (.pair (I r2.1.2.1) (.pair (I r2.1.2.2.1) (.pair (I r2.1.2.2.2.1) (.pair (.rep (.slice (.slice Tl)) r2.1.2.2.2.2.1) (.eq (.slice none 0 0)))))))),(.tmp 20,.rep Tl r4.1)]) (aS [.tmp 19,.tmp 20] rfl rfl SK rfl pq) λ_ _ _ hn=>⟨(aA (t:=an) (x:=(r2.1.1,r2.1.2.1,r2.1.2.2.1,r2.1.2.2.2.1,r2.1.2.2.2.2.1,[])) (.agg (.pair .int (.pair .int (.pair .int (.pair .int (.pair .rep .nil)))))) trivial rfl hn.1),hn.2.1,trivial⟩) ?_
 refine mq ?_
 refine xr ?_
 refine xr ?_
 refine aq ?_
 refine aq ?_
 refine nt ?_
 refine aj ?_
 refine aM (Z:=Unit) (α:=Bool) (λz7 x6=>[(0,Pt c),(2,Pt b1),(6,Pt b3),(7,.rep Tl r4.1),(8,.rep (.slice Tl) r5.1),(31,.eq (.bool x6))]) (λz7 x6=>[.obj c 71 (.agg (.pair (.rep Tl r4.2.1) (.pair (I r4.2.2.1) (.eq (.int .u64 r4.2.2.2))))),.obj b1 26 (.agg (.pair (I 0) (.pair (I 0) (.pair (I 0) (.pair (I 0) (.pair (.eq (.slice none 0 0)) (.eq (.slice none 0 0)))))))),.obj b3 26 (.agg (.pair (I r2.1.1) (.pair (I r2.1.2.1) (.pair (I r2.1.2.2.1) (.pair (I r2.1.2.2.2.1) (.pair (.rep (.slice (.slice Tl)) r2.1.2.2.2.2.1) (.eq (.slice none 0 0))))))))]) h (λK h=>?_) (λz7 x6 h=>?_)
 .
  refine ab (mq ?_);refine jb (dZ rfl) ?_;refine mq ?_;refine cQ (s:=26) rfl (λhb=>?_) (λhb=>?_)
  .replace h:=eL (PN hb) h;iterate 4 refine gn ?_
   refine pt (nl ?_);exact jz ((),true) h [1,2,0]
  .replace h:=cY (Cd hb) h;refine nJ rfl rfl rfl rfl rfl rfl (aC rfl gC (t7) rfl) ⟨rfl,trivial⟩ ?_;refine gm ?_;obtain⟨r8,Y,h⟩:=aa h;refine gb (bJ (N:=[(.tmp 27,.agg (.pair (I r2.1.1) (.pair (I r2.1.2.1) (.pair (I r2.1.2.2.1) (.pair (I r2.1.2.2.2.1) (.pair (.rep (.slice (.slice Tl)) r2.1.2.2.2.2.1) (.eq (.slice none 0 0)))))))),(.tmp 28,.rep (.slice Tl) r5.1)]) (ay [.tmp 27,.tmp 28] rfl rfl Vf rfl (ye k (r2.1.1,r2.1.2.1,r2.1.2.2.1,r2.1.2.2.2.1,r2.1.2.2.2.2.1,[]) r5.1 r8 Y)) λ_ _ _ hn=>⟨(aA (t:=an) (x:=(r2.1.1,r2.1.2.1,r2.1.2.2.1,r2.1.2.2.2.1,r2.1.2.2.2.2.1,[])) (.agg (.pair .int (.pair .int (.pair .int (.pair .int (.pair .rep .nil)))))) trivial rfl hn.1),hn.2.1,trivial⟩) ?_;refine ga (ic rfl) ?_;refine pf (nl ?_);exact jz ((), !r8) h [1,2,0]
 .
  refine cv h (λh=>?_) (λh=>?_)
  .refine sr (fr 2 ?_);refine lo gC ?_;refine fr 2 ?_;refine aJ rfl rfl (aE rfl gC trivial rfl rfl) ⟨rfl,rfl,trivial⟩ ?_;refine cq ?_;refine cq ?_;refine cq (nt (rx ?_));refine bF (fq (a:=.agg (.pair (I r2.1.1) (.pair (I r2.1.2.1) (.pair (I r2.1.2.2.1) (.pair (I r2.1.2.2.2.1) (.pair (.rep (.slice (.slice Tl)) r2.1.2.2.2.2.1) (.eq (.slice none 0 0)))))))) (a':=.rep an (r2.1.1,r2.1.2.1,r2.1.2.2.1,r2.1.2.2.2.1,r2.1.2.2.2.2.1,[])) (gY (.agg (.pair .int (.pair .int (.pair .int (.pair .int (.pair .rep .nil)))))))) ?_;refine bF (eg (t:=Tl) (x:=([]:(List Int))) 3 rfl .nil rfl rfl) ?_;refine bF (eg (t:=(.slice Tl)) (x:=([]:(List (List Int)))) 4 rfl .nil rfl rfl) ?_;refine bF (SE.fin (Γ':=[(2,_),(3,_),(4,_),(5,_)]) [2,0,1] ⟨rfl,rfl,rfl,rfl,trivial⟩ rfl) ?_;cases h;exact aP () [.rep an (r2.1.1,r2.1.2.1,r2.1.2.2.1,r2.1.2.2.2.1,r2.1.2.2.2.2.1,[]),_,_,_] 1 ⟨⟨_,_,_,_,_,rfl,(.tail _ (.head _)),gC,(t7),rfl⟩,rfl,rfl,rfl,trivial⟩ rfl
  .refine sk (aM (Z:=Value) (α:=(List bq)×(List Int)×Int×Int) (λy x9=>[(2,Pt b1),(6,Pt b3),(7,.rep Tl r4.1),(8,.rep (.slice Tl) r5.1)]) (λy x9=>[.obj b1 26 (.agg (.pair (I 0) (.pair (I 0) (.pair (I 0) (.pair (I 0) (.pair (.eq (.slice none 0 0)) (.eq (.slice none 0 0)))))))),.obj b3 26 (.agg (.pair (I r2.1.1) (.pair (I r2.1.2.1) (.pair (I r2.1.2.2.1) (.pair (I r2.1.2.2.2.1) (.pair (.rep (.slice (.slice Tl)) r2.1.2.2.2.2.1) (.eq y))))))),.sl y 47 bz x9.1,.obj c 71 (.agg (.pair (.rep Tl x9.2.1) (.pair (I x9.2.2.1) (.eq (.int .u64 x9.2.2.2)))))]) h (λK h=>?_) (λy x9 h=>?_))
   .refine sr (mq ?_);obtain⟨u,Q,h⟩:=aa h;refine kb (ay [.tmp 33,.const (.int .i64 (4))] rfl rfl wb rfl (cL k (r4.2.1,r4.2.2.1,r4.2.2.2) c 4 u Q)) ?_;refine aq (nt (ai ?_));refine iO (SE.nil 47 bz) ?_;refine aL (λl e=>[(0,Pt c),(2,Pt b1),(6,Pt b3),(7,.rep Tl r4.1),(8,.rep (.slice Tl) r5.1),(10,I e.2.2.2.2)]) (λl e=>[.obj c 71 (.agg (.pair (.rep Tl e.1) (.pair (I e.2.1) (.eq (.int .u64 e.2.2.1))))),.obj b1 26 (.agg (.pair (I 0) (.pair (I 0) (.pair (I 0) (.pair (I 0) (.pair (.eq (.slice none 0 0)) (.eq (.slice none 0 0)))))))),.obj b3 26 (.agg (.pair (I r2.1.1) (.pair (I r2.1.2.1) (.pair (I r2.1.2.2.1) (.pair (I r2.1.2.2.2.1) (.pair (.rep (.slice (.slice Tl)) r2.1.2.2.2.2.1) (.eq l))))))),.sl l 47 bz e.2.2.2.1]) (iM k r2 r5) k (.slice none 0 0) (u.2.1,u.2.2.1,u.2.2.2,([]:(List bq)),u.1) (λ_=>rfl) h (SE.fin [1,2,3,0] ⟨rfl,rfl,rfl,rfl,rfl,rfl,trivial⟩ rfl) (λn l e h=>?_);unfold iM at h;refine aj (sr (mq ?_));refine jb (kB rfl) ?_;refine nt (ci h (λh=>?_) (λh=>?_))
    .refine sk (aj (ai (sr (mq ?_))));refine fr 2 ?_;refine lo gC ?_;obtain⟨j,O,h⟩:=aa h;refine fr 1 ?_;refine kb (bJ (N:=[(.tmp 39,Pt c),(.tmp 40,.agg (.pair (I r2.1.1) (.pair (I r2.1.2.1) (.pair (I r2.1.2.2.1) (.pair (I r2.1.2.2.2.1) (.pair (.rep (.slice (.slice Tl)) r2.1.2.2.2.2.1) (.eq l)))))))]) (ay [.tmp 39,.tmp 40] rfl rfl U7 rfl (sO k (e.1,e.2.1,e.2.2.1) c (r2.1.1,r2.1.2.1,r2.1.2.2.1,r2.1.2.2.2.1,r2.1.2.2.2.2.1,()) j O)) λ_ _ _ hn=>⟨hn.1,(Nc (t:=(.pair Ti (.pair Ti (.pair Ti (.pair Ti (.pair (.slice (.slice Tl)) .ign)))))) (x:=(r2.1.1,r2.1.2.1,r2.1.2.2.1,r2.1.2.2.2.1,r2.1.2.2.2.2.1,())) (o8 (gY .int) (o8 (gY .int) (o8 (gY .int) (o8 (gY .int) (o8 (gY .rep) NT))))) hn.2.1),trivial⟩) ?_;refine aW rfl rfl rfl (bb rfl Bn Jj) trivial λV0=>?_;refine aJ rfl rfl (aE rfl sb rfl rfl rfl) ⟨rfl,rfl,trivial⟩ ?_;refine nt (aj (cV ?_));refine dm ?_;refine da (aH rfl CJ) ?_;refine ea 0 (aC rfl cx nW rfl) ?_;obtain⟨zM,J,h⟩:=aa h;refine db (aX (t:=Tl) rfl ta gG J) ?_;refine da (au (t:=Tl) rfl gG rfl) ?_;refine da (aH rfl CL) ?_;refine ea 0 (aC rfl cx nW rfl) ?_;obtain⟨D,F,h⟩:=aa h;refine db (aX (t:=Ti) rfl ie cx F) ?_;refine da (au (t:=Ti) rfl cx rfl) ?_;refine da (aH rfl yn) ?_;refine ea 2 (aC rfl cx nW rfl) ?_;refine df dQ ?_;refine jb (jt rfl) ?_;refine fl IR ?_;refine aJ rfl rfl (aE rfl Vy rfl rfl rfl) ⟨rfl,rfl,trivial⟩ ?_;refine nt (ab (fl sW ?_));refine fr 2 ?_;refine lo EU ?_;refine fr 1 ?_;refine lo sb ?_;refine ja (bj (t:=bz) [(.tmp 57,_)] [(j.1.1,j.1.2.1,decide (r2.1.2.2.1≤D))] rfl rfl KY (.cons trivial (.agg (.pair .rep (.pair .rep .bool))) .nil) rfl rfl) ?_;obtain⟨VZ,M,h⟩:=aa h;refine fr 4 ?_;refine eG rfl rfl rfl (cO rfl rfl KY (am M)) ⟨rfl,rfl,trivial⟩ λX=>?_;refine fl sW ?_;refine tf λo20=>?_;refine fr 2 ?_;refine aJ rfl rfl (aE rfl EU o20 rfl rfl) ⟨rfl,rfl,trivial⟩ ?_;refine aF (aO (tn (ab (mq ?_))));obtain⟨U,E,h⟩:=aa h;refine jb (eM rfl E) ?_;refine aq (nl ?_);exact jz (X,(j.2.1,j.2.2.1,j.2.2.2,e.2.2.2.1++[(j.1.1,j.1.2.1,decide (r2.1.2.2.1≤D))],U)) h [3,4,0,1]
    .refine xa ?_;exact jz (l,(e.2.2.2.1,e.1,e.2.1,e.2.2.1)) h [1,2,3,0]
   .refine sr (fr 1 ?_);refine fr 2 ?_;refine eF (nH (off:=5) [] trivial rfl rfl) ?_;refine lo gC ?_;iterate 2 refine mq ?_
    refine fr 1 ?_;refine aJ rfl rfl (aE rfl gC trivial rfl rfl) ⟨rfl,rfl,trivial⟩ ?_;refine aq ?_;refine aq ?_;refine cq (nt (ax ?_));refine bF (fq (a:=.agg (.pair (I r2.1.1) (.pair (I r2.1.2.1) (.pair (I r2.1.2.2.1) (.pair (I r2.1.2.2.2.1) (.pair (.rep (.slice (.slice Tl)) r2.1.2.2.2.2.1) (Rs bz x9.1))))))) (a':=.rep an (r2.1.1,r2.1.2.1,r2.1.2.2.1,r2.1.2.2.2.1,r2.1.2.2.2.2.1,x9.1)) (gY (.agg (.pair .int (.pair .int (.pair .int (.pair .int (.pair .rep .rep)))))))) ?_;refine bF (SE.fin (Γ':=[(2,_),(3,_),(4,_),(5,_)]) [2,0,1] ⟨rfl,rfl,rfl,rfl,trivial⟩ rfl) ?_;cases h;exact aP () [.rep an (r2.1.1,r2.1.2.1,r2.1.2.2.1,r2.1.2.2.2.1,r2.1.2.2.2.2.1,x9.1),_,_,_] 1 ⟨⟨_,_,_,_,_,rfl,(.tail _ (.head _)),gC,(t7),rfl⟩,rfl,rfl,rfl,trivial⟩ rfl
def dh(k:Nat)(e:(List Int)):Nat->(Int×Int)->Option Int
 |0,_=>none
 |n+1,c=>
  if c.2 < (e.length:Int) then((aR e c.2).bind λj=>
  (eW k c.1 j).bind λl=>
  (ck (c.2+1)).bind λh=>
  dh k e n (l,h)) else(some c.1)
def fW(k:Nat)(a0:ae)(q5:ae):Nat->((List Int)×Int)->Option ((List Int)×Int)
 |0,_=>none
 |n+1,c=>
  (gk k (lm (λ(j:(List Int)) (h:(List Int))=>
   if¬((h.length:Int)=c.2) then(some (j,true)) else(((dh k h k (0,0)):Option (Int)).bind λr=>
   (cg k q5 r).bind λs=>
   if 0 < (s.length:Int) then(some (h,false)) else(some (j,true))))) (a0.2.2.2.2.2.length:Int) (c.1,false)).bind λe=>
  if e.2=true then(some (e.1,0)) else((ck (c.2+1)).bind λl=>
  fW k a0 q5 n (e.1,l))
def mU(k:Nat)(a0:ae):Option ((List Int)×Int):=
 (i9 k a0 ([]:(List Int)) ([]:(List Int)) ([]:(List Int)) ([]:(List Int))).bind λr4=>
 fF r4.1 (if¬(r4.2.2=0) then(some ([],r4.2.2)) else(none)) (λq5=>if¬(r4.2.2=0) then(some ([],r4.2.2)) else(fW k a0 q5 k ([],0)))
theorem xW(k:Nat)(a0:ae)(r:(List Int)×Int)(h:mU k a0=some r):
 bR (dJ Tryz.prog) 28 [.rep an a0] [] (λ_:Unit=>(bM [.rep Tl r.1,I r.2],[])):=by
 unfold mU at h
 replace h:=bh h
 refine A9 49 Tryz.func28 rfl Tryz.ntmps28 rfl λS w0=>?_
 refine sr ?_
 refine bx λb1=>?_
 refine aW rfl rfl rfl (bb rfl Ua Vk) trivial λb2=>?_
 refine aW rfl rfl rfl (bb rfl T9 Vj) trivial λb3=>?_
 refine nt ?_
 refine sr ?_
 refine fr 2 ?_
 refine lo gC ?_
 obtain⟨r4,V6,h⟩:=aa h
 have U:=jS k a0 ([]:(List Int)) ([]:(List Int)) ([]:(List Int)) ([]:(List Int)) r4 V6
 rcases hr:r4.1 with _ |q5
 .
  rw [hr] at h U;replace h:=tR h;refine aN (Δ:=[]) (F:=_) (λ_ _ _=>ag rfl _) rfl rfl (bJ (N:=[(.tmp 13,.rep an a0),(.const (.slice none 0 0),.eq (.slice none 0 0)),(.const (.slice none 0 0),.eq (.slice none 0 0)),(.const (.slice none 0 0),.eq (.slice none 0 0)),(.const (.slice none 0 0),.eq (.slice none 0 0))]) (aS [.tmp 13,.const (.slice none 0 0),.const (.slice none 0 0),.const (.slice none 0 0),.const (.slice none 0 0)] rfl rfl wa rfl U) λ_ _ _ hn=>⟨hn.1,(aA (t:=Tl) (x:=([]:(List Int))) .nil rfl rfl hn.2.1),(aA (t:=Tl) (x:=([]:(List Int))) .nil rfl rfl hn.2.2.1),(aA (t:=Tl) (x:=([]:(List Int))) .nil rfl rfl hn.2.2.2.1),(aA (t:=Tl) (x:=([]:(List Int))) .nil rfl rfl hn.2.2.2.2.1),trivial⟩) ⟨rfl,rfl,rfl,rfl,rfl,trivial⟩ λ_=>?_;refine mq ?_;refine xr ?_;refine xr ?_;refine xr ?_;refine aW rfl rfl rfl (bb rfl OG Qj) trivial λb6=>?_;refine aJ rfl rfl (aE rfl BD rfl rfl rfl) ⟨rfl,rfl,trivial⟩ ?_;refine aq ?_;refine aq (nt (aj (sr ?_)));refine mq ?_;refine jb (dZ rfl) ?_;refine nt (cn h (λh=>?_) (λh=>?_))
  .refine sr (mq ?_);refine fr 3 ?_;refine aJ rfl rfl (aE rfl gG rfl rfl rfl) ⟨rfl,rfl,trivial⟩ ?_;refine fr 3 ?_;refine aJ rfl rfl (aE rfl ET rfl rfl rfl) ⟨rfl,rfl,trivial⟩ ?_;refine nt (rx (aD 1 rfl ?_));refine bF (fq (a:=.eq (.slice none 0 0)) (a':=.rep Tl []) (gY .nil)) ?_;refine A5 ?_;cases h;exact aP () [_,_] 0 ⟨⟨_,_,_,_,_,rfl,(.head _),gG,(λ_=>rfl),rfl⟩,⟨_,_,_,_,_,rfl,(.tail _ (.head _)),ET,(λ_=>rfl),rfl⟩,trivial⟩ rfl
  .cases h
 .
  rw [hr] at h U;replace h:=tQ h;refine aN (Δ:=[]) (F:=_) (λ_ _ _=>ag rfl _) rfl rfl (bJ (N:=[(.tmp 13,.rep an a0),(.const (.slice none 0 0),.eq (.slice none 0 0)),(.const (.slice none 0 0),.eq (.slice none 0 0)),(.const (.slice none 0 0),.eq (.slice none 0 0)),(.const (.slice none 0 0),.eq (.slice none 0 0))]) (aS [.tmp 13,.const (.slice none 0 0),.const (.slice none 0 0),.const (.slice none 0 0),.const (.slice none 0 0)] rfl rfl wa rfl U) λ_ _ _ hn=>⟨hn.1,(aA (t:=Tl) (x:=([]:(List Int))) .nil rfl rfl hn.2.1),(aA (t:=Tl) (x:=([]:(List Int))) .nil rfl rfl hn.2.2.1),(aA (t:=Tl) (x:=([]:(List Int))) .nil rfl rfl hn.2.2.2.1),(aA (t:=Tl) (x:=([]:(List Int))) .nil rfl rfl hn.2.2.2.2.1),trivial⟩) ⟨rfl,rfl,rfl,rfl,rfl,trivial⟩ λz7=>?_;refine mq ?_;refine xr ?_;refine xr ?_;refine xr ?_;refine aW rfl rfl rfl (bb rfl OG Qj) trivial λb8=>?_;refine aJ rfl rfl (aE rfl BD rfl rfl rfl) ⟨rfl,rfl,trivial⟩ ?_;refine aq ?_;refine aq (nt (aj (sr ?_)));refine mq ?_;refine jb (dZ rfl) ?_;refine nt (cn h (λh=>?_) (λh=>?_))
  .refine sr (mq ?_);refine fr 5 ?_;refine aJ rfl rfl (aE rfl gG rfl rfl rfl) ⟨rfl,rfl,trivial⟩ ?_;refine fr 5 ?_;refine aJ rfl rfl (aE rfl ET rfl rfl rfl) ⟨rfl,rfl,trivial⟩ ?_;refine nt (rx (aD 1 rfl ?_));refine bF (fq (a:=.eq (.slice none 0 0)) (a':=.rep Tl []) (gY .nil)) ?_;refine A5 ?_;cases h;exact aP () [_,_] 0 ⟨⟨_,_,_,_,_,rfl,(.head _),gG,(λ_=>rfl),rfl⟩,⟨_,_,_,_,_,rfl,(.tail _ (.head _)),ET,(λ_=>rfl),rfl⟩,trivial⟩ rfl
  .refine sk (sr (aW rfl rfl rfl (bb rfl Vv VG) trivial λb9=>?_));refine aJ rfl rfl (aE rfl cx rfl rfl rfl) ⟨rfl,rfl,trivial⟩ ?_;refine nt (ai (cE 6 rfl ?_));refine iO (fq (a:=.eq (.slice none 0 0)) (a':=.rep Tl []) (gY .nil)) ?_;refine JP (Z:=Nat) (α:=(List Int)×Int) (λe c=>[(1,Pt b1),(2,Pt b2),(3,Pt b3),(4,Pt b8),(7,Pt e)]) (λe c=>[.obj b1 26 (.rep an a0),.obj b2 22 (.rep Tl c.1),.obj b3 31 (I 0),.obj b8 72 (.eq (.pointer (some ⟨z7.1,0,none⟩))),.obj z7.1 125 (aI q5 z7.2),.obj e 3 (I c.2),.inv z7.2 (bD k q5)]) (fW k a0 q5) k b9 ([],0) (λ_=>rfl) h (SE.fin [5,0,6,2,3,1,4] ⟨rfl,rfl,rfl,rfl,rfl,trivial⟩ rfl) (λn ml1 e c h=>?_);unfold fW at h;refine aj (ai (Ge rfl (P0 PZ) ?_));refine aj (JQ ?_);refine tn (sr (fl sW ?_));refine lo EU ?_;refine ol QO ?_;refine aW rfl rfl rfl (ay [.tmp 25] rfl rfl UQ rfl (uL (a0.2.2.2.2.2.length:Int))) ⟨rfl,trivial⟩ λu=>?_;refine nt (ai (cE 7 rfl ?_));refine cE 7 rfl ?_;refine cE 7 rfl ?_;refine cE 7 rfl ?_;refine cE 7 rfl ?_;refine cE 7 rfl ?_;refine cE 7 rfl ?_;refine cE 7 rfl ?_;obtain⟨j,V3,h⟩:=aa h;refine nK (Δ:=[.obj u 3 (I (a0.2.2.2.2.2.length:Int)),.obj b1 26 (.rep an a0),.obj b2 22 (.rep Tl c.1),.obj b3 31 (I 0),.obj b8 72 (.eq (.pointer (some ⟨z7.1,0,none⟩))),.obj z7.1 125 (aI q5 z7.2),.obj e 3 (I c.2),.inv z7.2 (bD k q5)]) (F:=zA ml1) (X:=Unit) (J:=λ_=>LZ j.2) (E:=λQ=>[.obj u 3 (I (a0.2.2.2.2.2.length:Int)),.obj b1 26 (.rep an a0),.obj b2 22 (.rep Tl j.1),.obj b3 31 (I 0),.obj b8 72 (.eq (.pointer (some ⟨z7.1,0,none⟩))),.obj z7.1 125 (aI q5 z7.2),.obj e 3 (I c.2),.inv z7.2 (bD k q5)]) (r0:=λ_=>.tup .any) rfl rfl UE (λrec hp ha hb hs hpe hN hv l=>?_) (λdl Q=>pZ (λhj=>?_) (λhj=>?_))
   .rcases rec with⟨st0,pe0,fn0,tm0,ps0,as0,bd0,df0⟩;dsimp only at hp ha hb hs hpe hN hv;subst hp hs hpe;have vN:yJ tm0 [(2,Pt b2),(3,Pt b3),(4,Pt b8),(7,Pt e)]:=⟨congrArg A.eq (hv 2 _ rfl).symm,congrArg A.eq (hv 3 _ rfl).symm,congrArg A.eq (hv 4 _ rfl).symm,congrArg A.eq (hv 7 _ rfl).symm,trivial⟩;refine bR.pick (M:=(dJ Tryz.prog)) [1,0,2,3,4,5,6,7,8] [1,0,2,3,4,5,6,7,8] (sH (λ(Q:Unit) (q:(List Int)×Bool)=>[.raw l (.loop (iY ⟨.ready,none,fn0,tm0, #[27],as0,bd0,df0⟩ (LZ q.2))),.obj b1 26 (.rep an a0),.obj b2 22 (.rep Tl q.1),.obj b3 31 (I 0),.obj b8 72 (.eq (.pointer (some ⟨z7.1,0,none⟩))),.obj z7.1 125 (aI q5 z7.2),.obj e 3 (I c.2),.inv z7.2 (bD k q5)]) l (lm (λ(O:(List Int)) (s:(List Int))=>
    if¬((s.length:Int)=c.2) then(some (O,true)) else(((dh k s k (0,0)):Option (Int)).bind λD=>
    (cg k q5 D).bind λgw=>
    if 0 < (gw.length:Int) then(some (s,false)) else(some (O,true))))) k (a0.2.2.2.2.2.length:Int) u (λQ q p r' h=>?_) () (c.1,false) j V3) rfl (λ_=>rfl) (λ_=>rfl)
    obtain⟨rq,hq,h2,rfl⟩:=qc h;obtain⟨O,b5⟩:=q;obtain rfl:b5=false:=hq;replace h:=bh h2;obtain⟨s,hpv⟩:∃x,x=p:=⟨_,rfl⟩;subst hpv;refine YT.pick (R':=(λQ:Unit=>(.eq (.bool rq.2),[.raw l (.loop (iY ⟨.ready,none,fn0,tm0, #[27],as0,bd0,df0⟩ (LZ (!rq.2)))),.obj b1 26 (.rep an a0),.obj b2 22 (.rep Tl rq.1),.obj b3 31 (I 0),.obj b8 72 (.eq (.pointer (some ⟨z7.1,0,none⟩))),.obj z7.1 125 (aI q5 z7.2),.obj e 3 (I c.2),.inv z7.2 (bD k q5)]))) [0,1,2,3,4,5,6,7] [0,1,2,3,4,5,6,7] (C5 ha hb (N:=49) (Γ:=[(2,Pt b2),(3,Pt b3),(4,Pt b8),(7,Pt e)]) rfl hN (by decide) vN (λS w=>?_)) rfl (λ_=>rfl) (λ_=>rfl);refine ab (aq (nl ?_));refine vy rfl rfl ?_;refine ai (aj (sr (mq ?_)));refine ol ie ?_;refine fr 6 ?_;refine lo cx ?_;refine jb (dZ rfl) ?_;refine nt (cn h (λh=>?_) (λh=>?_))
    .refine d5 (bv (cu (aD 7 rfl ?_)));refine aD 1 rfl ?_;refine aD 7 rfl ?_;refine aD 7 rfl ?_;refine aD 7 rfl ?_;refine aD 7 rfl ?_;refine aD 7 rfl ?_;refine aD 7 rfl ?_;cases h;exact kZ () 7 rfl
    .refine sk (sr (cq (nt ?_)));refine aM (Z:=Unit) (α:=Int) (λpq D=>[(2,Pt b2),(3,Pt b3),(4,Pt b8),(8,.rep Tl s),(9,.eq (.int .u8 D))]) (λpq D=>[.obj b2 22 (.rep Tl O),.obj b3 31 (I 0),.obj b8 72 (.eq (.pointer (some ⟨z7.1,0,none⟩))),.obj z7.1 125 (aI q5 z7.2),.inv z7.2 (bD k q5),.obj b1 26 (.rep an a0),.obj e 3 (I c.2),.raw l (.loop (⟨.busy,none,fn0,tm0, #[27],as0,bd0,df0⟩:Loop))]) h (λK h=>?_) (λpq D h=>?_)
     .refine sr (mq ?_);refine ol ie ?_;refine eH rfl ?_;refine nt (ai (aL (Z:=Unit) (α:=Int×Int) (λmw y=>[(2,Pt b2),(3,Pt b3),(4,Pt b8),(8,.rep Tl s),(9,.eq (.int .u8 y.1)),(32,.rep Tl s),(33,I (s.length:Int)),(34,I y.2)]) (λmw y=>[.obj b2 22 (.rep Tl O),.obj b3 31 (I 0),.obj b8 72 (.eq (.pointer (some ⟨z7.1,0,none⟩))),.obj z7.1 125 (aI q5 z7.2),.inv z7.2 (bD k q5),.obj b1 26 (.rep an a0),.obj e 3 (I c.2),.raw l (.loop (⟨.busy,none,fn0,tm0, #[27],as0,bd0,df0⟩:Loop))]) (dh k s) k () (0,0) (λ_=>rfl) h (SE.fin [3,4,5,6,7,2,0,1] ⟨rfl,rfl,rfl,rfl,rfl,rfl,rfl,rfl,trivial⟩ rfl) (λn mw y h=>?_)));unfold dh at h;refine sr (jb (bN rfl) ?_);refine nt (aj (ci h (λh=>?_) (λh=>?_)))
      .refine sk (aj (ai (sr ?_)));obtain⟨V5,VZ,h⟩:=aa h;refine jb (aX (t:=Ti) rfl ie cx VZ) ?_;refine ja (au (t:=Ti) rfl cx rfl) ?_;refine aq (nt (ab ?_));iterate 2 refine mq ?_
       obtain⟨qt,V2,h⟩:=aa h;refine jb (ay [.tmp 38,.tmp 39] rfl rfl MD rfl (ix k y.1 V5 qt V2)) ?_;refine aq (aF (aO (tn (ab ?_))));obtain⟨V4,zM,h⟩:=aa h;refine jb (bp rfl zM) ?_;refine mq (nl ?_);exact jz ((),(qt,V4)) h [0,1,2,3,4,5,6,7]
      .refine xa ?_;exact jz ((),y.1) h [0,1,2,3,4,5,6,7]
     .refine sr (fr 2 ?_);refine lo BD ?_;refine mq ?_;obtain⟨gw,V0,h⟩:=aa h;refine fr 4 ?_;refine fr 4 ?_;refine aN (Δ:=[_,_]) (F:=_) (λ_ _ _=>ag rfl _) rfl rfl (aS [.tmp 42,.tmp 43] rfl rfl P4 rfl (ii k q5 z7.1 z7.2 D gw V0)) ⟨rfl,rfl,trivial⟩ λ_=>?_;refine ol xj ?_;refine jb (kB rfl) ?_;refine nt (ci h (λh=>?_) (λh=>?_))
      .refine sr (mq ?_);refine fr 3 ?_;refine aJ rfl rfl (aE rfl gG rfl rfl rfl) ⟨rfl,rfl,trivial⟩ ?_;refine fr 4 ?_;refine aJ rfl rfl (aE rfl ET rfl rfl rfl) ⟨rfl,rfl,trivial⟩ ?_;refine nt (ax (ba (aD 3 rfl ?_)));refine aD 6 rfl ?_;refine aD 4 rfl ?_;refine aD 5 rfl ?_;refine aD 4 rfl ?_;refine aD 5 rfl ?_;refine aD 6 rfl ?_;refine aD 7 rfl ?_;cases h;exact F8 () 7 rfl
      .refine bf (aO (aD 1 rfl ?_));refine aD 6 rfl ?_;refine aD 2 rfl ?_;refine aD 3 rfl ?_;refine aD 5 rfl ?_;refine aD 5 rfl ?_;refine aD 6 rfl ?_;refine aD 7 rfl ?_;cases h;exact kZ () 7 rfl
   .replace h:=cY (N6 hj) h;refine aO (JM ?_);refine aO (tn (aj (sr (fr 7 ?_))));refine lo cx ?_;refine nt (ab (aW rfl rfl rfl (bb rfl Vv VG) trivial λmc=>?_));refine aJ rfl rfl (aE rfl cx rfl rfl rfl) ⟨rfl,rfl,trivial⟩ ?_;refine nt (ab (lo cx ?_));obtain⟨Y,zz,h⟩:=aa h;refine jb (bp rfl zz) ?_;refine aJ rfl rfl (aE rfl cx rfl rfl rfl) ⟨rfl,rfl,trivial⟩ ?_;refine nl ?_;show JN _ _ _ ([.obj mc 3 (I Y),.obj e 3 (I c.2),.raw dl (.deferred (some [])),.obj u 3 (I (a0.2.2.2.2.2.length:Int)),.obj b1 26 (.rep an a0),.obj b2 22 (.rep Tl j.1),.obj b3 31 (I 0),.obj b8 72 (.eq (.pointer (some ⟨z7.1,0,none⟩))),.obj z7.1 125 (aI q5 z7.2),.inv z7.2 (bD k q5)]++zA ml1);exact Qy dl ml1 (mc,(j.1,Y)) h (f5 [.obj mc 3 (I Y),.obj e 3 (I c.2),.raw dl (.deferred (some [])),.obj u 3 (I (a0.2.2.2.2.2.length:Int)),.obj b1 26 (.rep an a0),.obj b2 22 (.rep Tl j.1),.obj b3 31 (I 0),.obj b8 72 (.eq (.pointer (some ⟨z7.1,0,none⟩))),.obj z7.1 125 (aI q5 z7.2),.inv z7.2 (bD k q5)] (zA ml1) [4,5,6,7,8,0,9,2] ⟨rfl,rfl,rfl,rfl,rfl,trivial⟩ rfl) (by exact rfl)
   .replace h:=eL (N4 hj) h;refine ax (ba (JL ?_));refine br (ba ?_);show JN _ _ _ ([.raw dl (.deferred (some [])),.obj u 3 (I (a0.2.2.2.2.2.length:Int)),.obj b1 26 (.rep an a0),.obj b2 22 (.rep Tl j.1),.obj b3 31 (I 0),.obj b8 72 (.eq (.pointer (some ⟨z7.1,0,none⟩))),.obj z7.1 125 (aI q5 z7.2),.obj e 3 (I c.2),.inv z7.2 (bD k q5)]++zA ml1);refine bF (f5 (Γ':=[(2,_),(3,_)]) [.raw dl (.deferred (some [])),.obj u 3 (I (a0.2.2.2.2.2.length:Int)),.obj b1 26 (.rep an a0),.obj b2 22 (.rep Tl j.1),.obj b3 31 (I 0),.obj b8 72 (.eq (.pointer (some ⟨z7.1,0,none⟩))),.obj z7.1 125 (aI q5 z7.2),.obj e 3 (I c.2),.inv z7.2 (bD k q5)] (zA ml1) [1,2,3,4,5,6,7,8,0] ⟨rfl,rfl,trivial⟩ rfl) ?_;refine NC (Δ:=[.obj u 3 (I (a0.2.2.2.2.2.length:Int)),.obj b1 26 (.rep an a0),.obj b2 22 (.rep Tl j.1),.obj b3 31 (I 0),.obj b8 72 (.eq (.pointer (some ⟨z7.1,0,none⟩))),.obj z7.1 125 (aI q5 z7.2),.obj e 3 (I c.2),.inv z7.2 (bD k q5)]) (dl::ml1) ?_;cases h;exact aP () [_,_] 0 ⟨⟨_,_,_,_,_,rfl,(.tail _ (.tail _ (.head _))),gG,(λ_=>rfl),rfl⟩,⟨_,_,_,_,_,rfl,(.tail _ (.tail _ (.tail _ (.head _)))),ET,(λ_=>rfl),rfl⟩,trivial⟩ rfl
def di(k:Nat)(r3:ae×(List Int)×(List (List Int))×Bool×bO)(h:Int)(e:(List Int)×Int):Nat->Int->Option (Except Bool Unit)
 |0,_=>none
 |n+1,c=>
  if c < (e.1.length:Int) then((((aR e.1 c).bind λE=>
  if¬(E=3) then((aR e.1 c).bind λD=>
  (aR r3.2.2.1 h).bind λy=>
  (aR y c).bind λx=>
  if¬((decide (D=1))=(decide (0≤x))) then(some true) else((aR e.1 c).bind λu=>
  if u < 1 then(some true) else((aR e.1 c).bind λs=>
  some (decide (3 < s))))) else((aR e.1 c).bind λr=>
  if r < 1 then(some true) else((aR e.1 c).bind λl=>
  some (decide (3 < l))))):Option (Bool)).bind λF=>
  if F=true then(some (.error false)) else((ck (c+1)).bind λj=>
  di k r3 h e n j)) else(some (.ok ()))
def dG(k:Nat)(r3:ae×(List Int)×(List (List Int))×Bool×bO):Nat->Int->Option (Except Bool Unit)
 |0,_=>none
 |n+1,c=>
  if c < (r3.2.2.1.length:Int) then(bE (α:=Unit) ((mV k r3.1 c).bind λh=>
  ((if¬(h.2=0) then(some true) else(some (!decide ((h.1.length:Int)=r3.1.1)))):Option (Bool)).bind λl=>
  if l=true then(some (.error false)) else(di k r3 c h k 0)) (λe=>some (.error e)) λ_=>
  (ck (c+1)).bind λj=>
  dG k r3 n j) else(some (.ok ()))
def kN(k:Nat)(a0:(List Int)):Option Bool:=
 (l9 k a0).bind λr1=>
 (mZ k (r1.1,r1.2.1,r1.2.2)).bind λr3=>
 (iG k r3.1).bind λr5=>
 (mU k r3.1).bind λr6=>
 ((if¬(r3.2.2.2.1=true) then(some true) else(if¬(r5.2=0) then(some true) else(if¬(r6.2=0) then(some true) else(if 0 < (r6.1.length:Int) then(some true) else((m9 k r5.1 r3.2.1).bind λr9=>
 some (!r9)))))):Option (Bool)).bind λx7=>
 if x7=true then(some false) else(bE (α:=Unit) (dG k r3 k 0) (some) λ_=>
 (rG k).bind λc=>
 some c)
theorem tO(k:Nat)(a0:(List Int))(r:Bool)(h:kN k a0=some r):
 bR (dJ Tryz.prog) 8 [.rep Tl a0] [] (λ_:Unit=>(bM [.eq (.bool r)],[])):=by
 unfold kN at h
 replace h:=bh h
 refine bR.of 117 Tryz.func8 rfl Tryz.ntmps8 rfl λS w0=>?_
 refine sr ?_
 refine cq ?_
 refine nt ?_
 refine sr ?_
 refine mq ?_
 obtain⟨r1,Wb,h⟩:=aa h
 have Wh:=uR k a0 r1 Wb
 refine aW rfl rfl rfl (ay [.tmp 16] rfl rfl Vg rfl Wh) ⟨rfl,trivial⟩ λb2=>?_
 obtain⟨r3,Wa,h⟩:=aa h
 have Wg:=Ai k (r1.1,r1.2.1,r1.2.2) b2 r3 Wa
 refine ka (aS [.tmp 17] rfl rfl U8 rfl Wg) ?_
 refine mq ?_
 refine xr ?_
 refine xr ?_
 refine xr ?_
 refine xr ?_
 refine aW rfl rfl rfl (bb rfl yV FT) trivial λb4=>?_
 refine aJ rfl rfl (aE rfl gC rfl rfl rfl) ⟨rfl,rfl,trivial⟩ ?_
 refine aq ?_
 refine aq ?_
 refine aq ?_
 refine nt ?_
 refine sr ?_
 refine lo gC ?_
 obtain⟨r5,V9,h⟩:=aa h
 have We:=pT k r3.1 r5 V9
 refine ja (aS [.tmp 24] rfl rfl SQ rfl We) ?_
 refine mq ?_
 refine xr ?_
 refine xr ?_
 refine aq ?_
 refine aq ?_
 refine nt ?_
 refine sr ?_
 refine lo gC ?_
 obtain⟨r6,V8,h⟩:=aa h
 have Wc:=xW k r3.1 r6 V8
 refine ja (aS [.tmp 29] rfl rfl U0 rfl Wc) ?_
 refine mq ?_
 refine xr ?_
 refine xr ?_
 refine aq ?_
 refine aq ?_
 refine nt ?_
 refine aj ?_
 refine aM (Z:=Unit) (α:=Bool) (λz8 x7=>[(3,Pt b4),(5,.rep (.slice Tl) r3.2.2.1),(53,.eq (.bool x7))]) (λz8 x7=>[.obj b4 26 (.rep an r3.1)]) h (λK h=>?_) (λz8 x7 h=>?_)
 .
  refine ab (mq ?_);refine ja (ic rfl) ?_;refine mq ?_;refine cQ (s:=35) rfl (λhb=>?_) (λhb=>?_)
  .replace h:=eL (zO hb) h;iterate 2 refine gn ?_
   refine pt ?_;refine mq ?_;iterate 2 refine gn ?_
   refine pt ?_;refine mq ?_;iterate 3 refine gn ?_
   refine pt ?_;refine mq ?_;iterate 4 refine gn ?_
   refine pt (nl ?_);exact jz ((),true) h [0]
  .replace h:=cY (tu hb) h;refine gm ?_;refine gb (dZ rfl) ?_;refine pf ?_;refine mq ?_;refine cQ (s:=39) rfl (λhb=>?_) (λhb=>?_)
   .replace h:=eL (PN hb) h;iterate 2 refine gn ?_
    refine pt ?_;refine mq ?_;iterate 3 refine gn ?_
    refine pt ?_;refine mq ?_;iterate 4 refine gn ?_
    refine pt (nl ?_);exact jz ((),true) h [0]
   .replace h:=cY (Cd hb) h;refine gm ?_;refine gb (dZ rfl) ?_;refine pf ?_;refine mq ?_;refine cQ (s:=43) rfl (λhb=>?_) (λhb=>?_)
    .replace h:=eL (PN hb) h;iterate 3 refine gn ?_
     refine pt ?_;refine mq ?_;iterate 4 refine gn ?_
     refine pt (nl ?_);exact jz ((),true) h [0]
    .replace h:=cY (Cd hb) h;refine gm ?_;refine ga (rj rfl rfl ie) ?_;refine gb (kB rfl) ?_;refine pf ?_;refine mq ?_;refine cQ (s:=48) rfl (λhb=>?_) (λhb=>?_)
     .replace h:=eL (va hb) h;iterate 4 refine gn ?_
      refine pt (nl ?_);exact jz ((),true) h [0]
     .replace h:=cY (vb hb) h;refine gm ?_;refine gm ?_;obtain⟨r9,V7,h⟩:=aa h;refine gb (ay [.tmp 49,.tmp 50] rfl rfl U6 rfl (yf k r5.1 r3.2.1 r9 V7)) ?_;refine ga (ic rfl) ?_;refine pf (nl ?_);exact jz ((), !r9) h [0]
 .
  refine cv h (λh=>?_) (λh=>?_)
  .refine sr (cq (nt (rx ?_)));cases h;exact ra
  .refine sk (dK (Z:=Unit) (α:=Unit) (λM Q=>[]) (λM Q=>[]) (λe=>e=r) h (λe h=>Option.some.inj h) (λK hR h=>?_) (λM Q h=>?_))
   .refine sr (cq (nt (ai ?_)));refine aL (λJ c=>[(3,Pt b4),(5,.rep (.slice Tl) r3.2.2.1),(11,I c)]) (λJ c=>[.obj b4 26 (.rep an r3.1)]) (dG k r3) k () 0 (λ_=>rfl) h (SE.fin [0] ⟨rfl,rfl,rfl,trivial⟩ rfl) (λn J c h=>?_);unfold dG at h;refine aj (sr ?_);iterate 2 refine mq ?_
    refine ol ta ?_;refine jb (bN rfl) ?_;refine nt (ci h (λh=>?_) (λh=>?_))
    .refine sk (dK (Z:=Unit) (α:=Unit) (λF O=>[(3,Pt b4),(5,.rep (.slice Tl) r3.2.2.1),(11,I c)]) (λF O=>[.obj b4 26 (.rep an r3.1)]) (λe=>e=r) h (λe h=>hR e h) (λK hR h=>?_) (λF O h=>?_))
     .refine ai (sr (lo gC ?_));refine mq ?_;obtain⟨j,V0,h⟩:=aa h;refine jb (aS [.tmp 61,.tmp 62] rfl rfl Ve rfl (xX k r3.1 c j V0)) ?_;refine mq ?_;refine xr ?_;refine xr ?_;refine aq ?_;refine aq (nt (aj ?_));refine aM (Z:=Unit) (α:=Bool) (λE x=>[(3,Pt b4),(5,.rep (.slice Tl) r3.2.2.1),(11,I c),(12,.rep Tl j.1),(74,.eq (.bool x))]) (λE x=>[.obj b4 26 (.rep an r3.1)]) h (λK h=>?_) (λE x h=>?_)
      .refine ab (mq ?_);refine jb (dZ rfl) ?_;refine mq ?_;refine cQ (s:=68) rfl (λhb=>?_) (λhb=>?_)
       .replace h:=eL (PN hb) h;iterate 5 refine gn ?_
        refine pt (nl ?_);exact jz ((),true) h [0]
       .replace h:=cY (Cd hb) h;refine gm ?_;refine ga (rj rfl rfl ie) ?_;refine ga (aH rfl gr) ?_;refine nJ rfl rfl rfl rfl rfl rfl (aC rfl cx nW rfl) ⟨rfl,trivial⟩ ?_;refine gb (dZ rfl) ?_;refine pf (nl ?_);exact jz ((), !decide ((j.1.length:Int)=r3.1.1)) h [0]
      .refine cv h (λh=>?_) (λh=>?_)
       .refine sr (cq (nt (rx (br (ba (be ?_))))));obtain rfl:=hR _ h;exact ra
       .refine sk (sr (cq (nt (ai ?_))));refine aL (λD l=>[(3,Pt b4),(5,.rep (.slice Tl) r3.2.2.1),(11,I c),(12,.rep Tl j.1),(14,I l)]) (λD l=>[.obj b4 26 (.rep an r3.1)]) (di k r3 c j) k () 0 (λ_=>rfl) h (SE.fin [0] ⟨rfl,rfl,rfl,rfl,rfl,trivial⟩ rfl) (λn D l h=>?_);unfold di at h;refine aj (sr ?_);iterate 2 refine mq ?_
        refine ol ie ?_;refine jb (bN rfl) ?_;refine nt (ci h (λh=>?_) (λh=>?_))
        .refine sk (aj (ai (aM (Z:=Unit) (α:=Bool) (λy u=>[(3,Pt b4),(5,.rep (.slice Tl) r3.2.2.1),(11,I c),(12,.rep Tl j.1),(14,I l),(115,.eq (.bool u))]) (λy u=>[.obj b4 26 (.rep an r3.1)]) h (λK h=>?_) (λy u h=>?_))))
         .refine cV ?_;refine dm ?_;refine dm ?_;obtain⟨Wq,zM,h⟩:=aa h;refine db (aX (t:=Ti) rfl ie cx zM) ?_;refine da (au (t:=Ti) rfl cx rfl) ?_;refine db (dZ rfl) ?_;refine nL rfl rfl rfl (aV rfl) ⟨rfl,trivial⟩ (λhb=>?_) (λhb=>?_)
          .replace h:=eL (PN hb) h;refine bg rfl rfl rfl rfl rfl (aV rfl) ⟨rfl,rfl,trivial⟩ ?_;refine bg rfl rfl rfl rfl rfl (aV rfl) ⟨rfl,rfl,trivial⟩ ?_;obtain⟨Wp,zz,h⟩:=aa h;refine bg rfl rfl rfl rfl rfl (aX (t:=Ti) rfl ie cx zz) ⟨rfl,rfl,rfl,trivial⟩ ?_;refine bg rfl rfl rfl rfl rfl (au (t:=Ti) rfl cx rfl) ⟨rfl,rfl,trivial⟩ ?_;refine bg rfl rfl rfl rfl rfl (gx rfl) ⟨rfl,rfl,rfl,trivial⟩ ?_;refine bg rfl rfl rfl rfl rfl (aV rfl) ⟨rfl,rfl,trivial⟩ ?_;refine bg rfl rfl rfl rfl rfl (aV rfl) ⟨rfl,rfl,trivial⟩ ?_;obtain⟨Wn,qt,h⟩:=aa h;refine bg rfl rfl rfl rfl rfl (aX (t:=Tl) rfl ta gG qt) ⟨rfl,rfl,rfl,trivial⟩ ?_;refine bg rfl rfl rfl rfl rfl (au (t:=Tl) rfl gG rfl) ⟨rfl,rfl,trivial⟩ ?_;refine bg rfl rfl rfl rfl rfl (aV rfl) ⟨rfl,rfl,trivial⟩ ?_;obtain⟨Wm,pq,h⟩:=aa h;refine bg rfl rfl rfl rfl rfl (aX (t:=Ti) rfl ie cx pq) ⟨rfl,rfl,rfl,trivial⟩ ?_;refine bg rfl rfl rfl rfl rfl (au (t:=Ti) rfl cx rfl) ⟨rfl,rfl,trivial⟩ ?_;refine bg rfl rfl rfl rfl rfl (jt rfl) ⟨rfl,rfl,rfl,trivial⟩ ?_;refine bg rfl rfl rfl rfl rfl (HO rfl U4) ⟨rfl,rfl,rfl,trivial⟩ ?_;refine db (uE rfl) ?_;refine nL rfl rfl rfl (aV rfl) ⟨rfl,trivial⟩ (λhb=>?_) (λhb=>?_)
           .replace h:=eL (PN hb) h;iterate 5 refine dg ?_
            refine db (uE rfl) ?_;refine dm ?_;iterate 2 refine dg ?_
            refine df dQ ?_;iterate 3 refine gn ?_
            refine pt (nl ?_);exact jz ((),true) h [0]
           .replace h:=cY (Cd hb) h;refine bg rfl rfl rfl rfl rfl (aV rfl) ⟨rfl,rfl,trivial⟩ ?_;refine bg rfl rfl rfl rfl rfl (aV rfl) ⟨rfl,rfl,trivial⟩ ?_;obtain⟨Wj,mw,h⟩:=aa h;refine bg rfl rfl rfl rfl rfl (aX (t:=Ti) rfl ie cx mw) ⟨rfl,rfl,rfl,trivial⟩ ?_;refine bg rfl rfl rfl rfl rfl (au (t:=Ti) rfl cx rfl) ⟨rfl,rfl,trivial⟩ ?_;refine bg rfl rfl rfl rfl rfl (bN rfl) ⟨rfl,rfl,rfl,trivial⟩ ?_;refine db (rf rfl) ?_;refine nL rfl rfl rfl (aV rfl) ⟨rfl,trivial⟩ (λhb=>?_) (λhb=>?_)
            .replace h:=eL (va hb) h;iterate 2 refine dg ?_
             refine df dQ ?_;iterate 3 refine gn ?_
             refine pt (nl ?_);exact jz ((),true) h [0]
            .replace h:=cY (vb hb) h;refine bg rfl rfl rfl rfl rfl (aV rfl) ⟨rfl,rfl,trivial⟩ ?_;refine bg rfl rfl rfl rfl rfl (aV rfl) ⟨rfl,rfl,trivial⟩ ?_;refine df dQ ?_;obtain⟨V5,mc,h⟩:=aa h;refine gb (aX (t:=Ti) rfl ie cx mc) ?_;refine ga (au (t:=Ti) rfl cx rfl) ?_;refine gb (kB rfl) ?_;refine pf (nl ?_);exact jz ((),decide (3 < V5)) h [0]
          .replace h:=cY (Cd hb) h;iterate 14 refine dg ?_
           refine db (rf rfl) ?_;refine dm ?_;refine bg rfl rfl rfl rfl rfl (aV rfl) ⟨rfl,rfl,trivial⟩ ?_;refine bg rfl rfl rfl rfl rfl (aV rfl) ⟨rfl,rfl,trivial⟩ ?_;obtain⟨Wi,gw,h⟩:=aa h;refine bg rfl rfl rfl rfl rfl (aX (t:=Ti) rfl ie cx gw) ⟨rfl,rfl,rfl,trivial⟩ ?_;refine bg rfl rfl rfl rfl rfl (au (t:=Ti) rfl cx rfl) ⟨rfl,rfl,trivial⟩ ?_;refine bg rfl rfl rfl rfl rfl (bN rfl) ⟨rfl,rfl,rfl,trivial⟩ ?_;refine db (rf rfl) ?_;refine nL rfl rfl rfl (aV rfl) ⟨rfl,trivial⟩ (λhb=>?_) (λhb=>?_)
           .replace h:=eL (va hb) h;iterate 2 refine dg ?_
            refine df dQ ?_;iterate 3 refine gn ?_
            refine pt (nl ?_);exact jz ((),true) h [0]
           .replace h:=cY (vb hb) h;refine bg rfl rfl rfl rfl rfl (aV rfl) ⟨rfl,rfl,trivial⟩ ?_;refine bg rfl rfl rfl rfl rfl (aV rfl) ⟨rfl,rfl,trivial⟩ ?_;refine df dQ ?_;obtain⟨V4,Y,h⟩:=aa h;refine gb (aX (t:=Ti) rfl ie cx Y) ?_;refine ga (au (t:=Ti) rfl cx rfl) ?_;refine gb (kB rfl) ?_;refine pf (nl ?_);exact jz ((),decide (3 < V4)) h [0]
         .refine cv h (λh=>?_) (λh=>?_)
          .refine sr (cq (nt (ax (br (ba (br (ba (be ?_))))))));obtain rfl:=hR _ h;exact ra
          .refine bf (aO (tn (ab (mq ?_))));obtain⟨V3,X,h⟩:=aa h;refine jb (bp rfl X) ?_;refine aq (nl ?_);exact jz ((),V3) h [0]
        .refine d5 (bv (bv (cu (bn ?_))));exact jz ((),()) h [0]
     .refine ab (mq ?_);obtain⟨V2,U,h⟩:=aa h;refine jb (bp rfl U) ?_;refine aq (nl ?_);exact jz ((),V2) h [0]
    .refine xa ?_;exact jz ((),()) h []
   .refine sr ?_;obtain⟨V6,VZ,h⟩:=aa h;refine cf rfl (aS [] rfl rfl Va rfl (Aj k V6 VZ)) trivial ?_;refine aq (nt (ax ?_));cases h;exact ra
