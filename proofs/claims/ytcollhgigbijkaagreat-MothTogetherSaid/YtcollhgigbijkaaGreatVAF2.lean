import Derived.Test.YtcollhgigbijkaaGreatVAB10
open Nat
open List hiding mem_of_getElem?
open Array hiding mem_of_getElem? mk
set_option linter.unusedSimpArgs false
set_option linter.unusedVariables false
set_option maxRecDepth 4000
set_option maxHeartbeats 1000000
namespace Go.Proofs.YtcollhgigbijkaaGreat
open K Go Go.Proofs
def eO(k:Nat)(r4:(List Int)×bP):Nat->((List Int)×Int×Int×Int×(List (List Int)))->Option ((List Int)×Int×Int×(List (List Int)))
 |0,_=>none
 |n+1,y7=>
  if y7.2.2.2.1 < (r4.1.length:Int) then((((eD k (y7.1,y7.2.1,y7.2.2.1) 5).bind λc=>
  if c.1=true then(some (c.2.1,c.2.2.1,c.2.2.2,y7.2.2.2.2)) else((ck ((y7.2.2.2.2.length:Int) - 1)).bind λr=>
  (cS k (c.2.1,c.2.2.1,c.2.2.2) r).bind λe=>
  (aU y7.2.2.2.2 e.1).bind λj=>
  (aU r4.1 y7.2.2.2.1).bind λh=>
  (cO (cE (length j+length [h]))).bind λ_=>
  some (e.2.1,e.2.2.1,e.2.2.2,List.set y7.2.2.2.2 (Int.toNat e.1) (j++[h])))):Option ((List Int)×Int×Int×(List (List Int)))).bind λx9=>
  (ck (y7.2.2.2.1+1)).bind λl=>
  eO k r4 n (x9.1,x9.2.1,x9.2.2.1,l,x9.2.2.2)) else(some (y7.1,y7.2.1,y7.2.2.1,y7.2.2.2.2))
def jq(k:Nat)(a0:bP)(a1:Int):Option ((List (List Int))×bP):=
 (eY k (a0.1,a0.2.1,a0.2.2) 1 3).bind λr1=>
 (cO (0≤r1.1/\cE (Int.toNat r1.1))).bind λ_=>
 (fZ k (r1.2.1,r1.2.2.1,r1.2.2.2) a1).bind λr4=>
 ((eO k r4 k (r4.2.1,r4.2.2.1,r4.2.2.2,0,List.replicate (Int.toNat r1.1) ([]:(List Int)))):Option ((List Int)×Int×Int×(List (List Int)))).bind λx5=>
 some (x5.2.2.2,(x5.1,x5.2.1,x5.2.2.1))
theorem tw(k:Nat)(a0:bP)(c:Nat)(a1:Int)(r:(List (List Int))×bP)(h:jq k a0 a1=some r):
 dx Tryz.prog 65 [Pt c,I a1] [.obj c 69 (.agg (.pair (.rep Tl a0.1) (.pair (I a0.2.1) (.eq (.int .u64 a0.2.2)))))] (λ_:Unit=>(bI [.rep (.slice Tl) r.1],[.obj c 69 (.agg (.pair (.rep Tl r.2.1) (.pair (I r.2.2.1) (.eq (.int .u64 r.2.2.2)))))])):=by
 unfold jq at h
 replace h:=bg h
 refine dx.of 42 Tryz.func65 rfl Tryz.ntmps65 rfl λS w0=>?_
 refine sr ?_
 refine cq ?_
 refine nt ?_
 refine sr ?_
 refine mq ?_
 obtain⟨r1,SD,h⟩:=aa h
 have SH:=iz k (a0.1,a0.2.1,a0.2.2) c 1 3 r1 SD
 refine kc (av [.tmp 9,.const (.int .i64 (1)),.const (.int .i64 (3))] rfl rfl Jm rfl SH) ?_
 obtain⟨u2,U,h⟩:=aa h
 refine aY rfl rfl rfl (LU (t:=.val) (d:=.slice none 0 0) rfl oz NK (am U).1 (am U).2) ⟨rfl,rfl,trivial⟩ λv3=>?_
 refine eC (Hf (F:=[.obj c 69 (.agg (.pair (.rep Tl r1.2.1) (.pair (I r1.2.2.1) (.eq (.int .u64 r1.2.2.2)))))])) ?_
 refine aq ?_
 refine nt ?_
 refine sr ?_
 iterate 2 refine mq ?_
 obtain⟨r4,SC,h⟩:=aa h
 have SG:=qj k (r1.2.1,r1.2.2.1,r1.2.2.2) c a1 r4 SC
 refine kb (av [.tmp 12,.tmp 13] rfl rfl QF rfl SG) ?_
 refine aq ?_
 refine nt ?_
 refine aH (Z:=(Value×(Nat->Value))) (α:=(List Int)×Int×Int×(List (List Int))) (λz6 x5=>[(5,.eq z6.1)]) (λz6 x5=>[.obj c 69 (.agg (.pair (.rep Tl x5.1) (.pair (I x5.2.1) (.eq (.int .u64 x5.2.2.1)))))]++wh 22 z6 x5.2.2.2) h (λK h=>?_) (λz6 x5 h=>?_)
 .
  refine sr (cq (nt (aj ?_)));refine aF (Z:=(Value×(Nat->Value))) (α:=(List Int)×Int×Int×Int×(List (List Int))) (λz8 y7=>[(0,Pt c),(5,.eq z8.1),(6,.rep Tl r4.1),(7,I y7.2.2.2.1)]) (λz8 y7=>[.obj c 69 (.agg (.pair (.rep Tl y7.1) (.pair (I y7.2.1) (.eq (.int .u64 y7.2.2.1)))))]++wh 22 z8 y7.2.2.2.2) (eO k r4) k (v3,λ_=>.slice none 0 0) (r4.2.1,r4.2.2.1,r4.2.2.2,0,List.replicate (Int.toNat r1.1) ([]:(List Int))) (λ_=>rfl) h (jY [.obj c 69 (.agg (.pair (.rep Tl r4.2.1) (.pair (I r4.2.2.1) (.eq (.int .u64 r4.2.2.2)))))] (wh 22 (v3,λ_=>.slice none 0 0) (List.replicate (Int.toNat r1.1) ([]:(List Int)))) [0] ⟨rfl,rfl,rfl,rfl,trivial⟩ rfl) (λn z8 y7 h=>?_);unfold eO at h;refine ak (sr ?_);iterate 2 refine mq ?_
  refine ol iE ?_;refine jb (bJ rfl) ?_;refine nt (ci h (λh=>?_) (λh=>?_))
  .refine sk (aH (Z:=(Value×(Nat->Value))) (α:=(List Int)×Int×Int×(List (List Int))) (λy x9=>[(0,Pt c),(5,.eq y.1),(6,.rep Tl r4.1),(7,I y7.2.2.2.1)]) (λy x9=>[.obj c 69 (.agg (.pair (.rep Tl x9.1) (.pair (I x9.2.1) (.eq (.int .u64 x9.2.2.1)))))]++wh 22 y x9.2.2.2) h (λK h=>?_) (λy x9 h=>?_))
   .refine aj (ak (sr (mq ?_)));obtain⟨j,gw,h⟩:=aa h;refine kb (av [.tmp 21,.const (.int .i64 (5))] rfl rfl MI rfl (iT k (y7.1,y7.2.1,y7.2.2.1) c 5 j gw)) ?_;refine nt (cv h (λh=>?_) (λh=>?_))
    .refine fP (bQ (c8 (an ?_)));exact t6 (z8,(j.2.1,j.2.2.1,j.2.2.2,y7.2.2.2.2)) h (jY [.obj c 69 (.agg (.pair (.rep Tl j.2.1) (.pair (I j.2.2.1) (.eq (.int .u64 j.2.2.2)))))] (wh 22 z8 y7.2.2.2.2) [0] ⟨rfl,rfl,rfl,rfl,trivial⟩ rfl)
    .refine sk (sr ?_);iterate 2 refine mq ?_
     refine Hm (pre:=[.obj c 69 (.agg (.pair (.rep Tl j.2.1) (.pair (I j.2.2.1) (.eq (.int .u64 j.2.2.2)))))]) rfl rfl rfl rfl rfl rW ⟨rfl,trivial⟩ ?_;obtain⟨mw,Q,h⟩:=aa h;refine jb (eI rfl Q) ?_;obtain⟨e,Y,h⟩:=aa h;refine kb (av [.tmp 23,.tmp 26] rfl rfl An rfl (dk k (j.2.1,j.2.2.1,j.2.2.2) c mw e Y)) ?_;refine aq (nt ?_);obtain⟨x,s,h⟩:=aa h;refine iL (DG (pre:=[.obj c 69 (.agg (.pair (.rep Tl e.2.1) (.pair (I e.2.2.1) (.eq (.int .u64 e.2.2.2)))))]) (Bh s).2) ?_;obtain⟨u,O,h⟩:=aa h;obtain⟨u16,X,h⟩:=aa h;refine Hq (Δ:=[.sl (z8.2 (Int.toNat e.1)) 3 Ti x,.sl z8.1 22 .val (na z8.2 0 y7.2.2.2.2),.obj c 69 (.agg (.pair (.rep Tl e.2.1) (.pair (I e.2.2.1) (.eq (.int .u64 e.2.2.2)))))]) (F:=(mT z8.2 0 y7.2.2.2.2).eraseIdx (Int.toNat e.1)) (Z:=Value) (λi=>[(0,Pt c),(5,.eq z8.1),(6,.rep Tl r4.1),(7,I y7.2.2.2.1)]) (λi=>[.sl z8.1 22 .val (List.set (na z8.2 0 y7.2.2.2.2) (Int.toNat e.1) i),.sl i 3 Ti (x++[u]),.obj c 69 (.agg (.pair (.rep Tl e.2.1) (.pair (I e.2.2.1) (.eq (.int .u64 e.2.2.2)))))]) (λS w=>?_) (λl=>?_)
     .refine qC ?_;refine cu rfl rfl rfl (bK rfl) ⟨rfl,trivial⟩ ?_;refine cu rfl rfl rfl (bK rfl) ⟨rfl,trivial⟩ ?_;refine cu rfl rfl rfl (bK rfl) ⟨rfl,trivial⟩ ?_;refine cu rfl rfl rfl (bK rfl) ⟨rfl,trivial⟩ ?_;refine iI 1 rfl rfl rfl rfl (cx (t:=.val) rfl rW ii (sx s)) ⟨rfl,rfl,trivial⟩ ?_;refine iI 1 rfl rfl rfl rfl (f9 (i:=Int.toNat e.1) (off:=0) rfl ii (λ_=>rfl) rfl (dp (sx s)).2.2 rfl) ⟨rfl,trivial⟩ ?_;refine cu rfl rfl rfl (bK rfl) ⟨rfl,trivial⟩ ?_;refine cu rfl rfl rfl (bK rfl) ⟨rfl,trivial⟩ ?_;refine cu rfl rfl rfl (aX (t:=Ti) rfl iE cG O) ⟨rfl,rfl,trivial⟩ ?_;refine cu rfl rfl rfl (ap (t:=Ti) rfl cG rfl) ⟨rfl,trivial⟩ ?_;refine cu rfl rfl rfl (bb (t:=Ti) [(.tmp 37,_)] [u] rfl rfl dA (.cons rfl .int .nil) rfl rfl) ⟨rfl,trivial⟩ ?_;refine Hz 0 rfl (λv=>[.sl v 3 Ti (x++[u])]) (λ_=>rfl) rfl rfl rfl (cI rfl rfl dA (am X)) ⟨rfl,rfl,trivial⟩ ?_;refine xe 12 [true,true,true,true,true,true,true,true,true,true,true,true] [40] [] [] rfl (by kernel_rfl) (by kernel_rfl) (by kernel_rfl) ew (λvs hv hB=>?_);obtain⟨w0,SY,rfl,SB⟩:=aD hv;obtain⟨w1,SX,rfl,SA⟩:=aD SB;obtain⟨w2,SV,rfl,Sz⟩:=aD SA;obtain⟨w3,SU,rfl,Sr⟩:=aD Sz;obtain⟨w4,SS,rfl,Sl⟩:=aD Sr;obtain⟨w5,SR,rfl,Sj⟩:=aD Sl;obtain⟨w6,SQ,rfl,Si⟩:=aD Sj;obtain⟨w7,SO,rfl,zz⟩:=aD Si;obtain⟨w8,SN,rfl,qt⟩:=aD zz;obtain⟨w9,SK,rfl,J⟩:=aD qt;obtain⟨SL,SJ,rfl,E⟩:=aD J;obtain⟨l,SI,rfl,D⟩:=aD E;obtain rfl:=sJ D;refine⟨[0,1,2],[.sl z8.1 22 .val (na z8.2 0 y7.2.2.2.2),.obj c 69 (.agg (.pair (.rep Tl e.2.1) (.pair (I e.2.2.1) (.eq (.int .u64 e.2.2.2))))),.sl l 3 Ti (x++[u])],by kernel_rfl,by decide,?_⟩;refine AG rfl rfl rfl rfl (cx (t:=.val) rfl rW ii (sx s)) ⟨rfl,rfl,trivial⟩ (by kernel_rfl) ?_;refine t3 2 rfl ?_;refine Nl λo18=>?_;refine t3 1 rfl ?_;refine rM rfl rfl (fS (i:=Int.toNat e.1) rfl ii rfl (mA (sx s)) rfl (.val o18) o18) ⟨rfl,rfl,trivial⟩ (by kernel_rfl) ?_;refine xb ?_;refine ce (SE.fin (Γ':=[(0,Pt c),(5,.eq z8.1),(6,.rep Tl r4.1),(7,I y7.2.2.2.1)]) (Δ':=[.sl z8.1 22 .val (List.set (na z8.2 0 y7.2.2.2.2) (Int.toNat e.1) l),.sl l 3 Ti (x++[u]),.obj c 69 (.agg (.pair (.rep Tl e.2.1) (.pair (I e.2.2.1) (.eq (.int .u64 e.2.2.2)))))]) [0,1,2] ⟨rfl,rfl,rfl,rfl,trivial⟩ rfl) ?_;exact λa w st=>⟨rfl,(l),(SE.fin (Γ':=[(0,Pt c),(5,.eq z8.1),(6,.rep Tl r4.1),(7,I y7.2.2.2.1)]) (Δ':=[.sl z8.1 22 .val (List.set (na z8.2 0 y7.2.2.2.2) (Int.toNat e.1) l),.sl l 3 Ti (x++[u]),.obj c 69 (.agg (.pair (.rep Tl e.2.1) (.pair (I e.2.2.1) (.eq (.int .u64 e.2.2.2)))))]) [0,1,2] ⟨rfl,rfl,rfl,rfl,trivial⟩ rfl) a w st⟩
     .show JN _ _ [(0,Pt c),(5,.eq z8.1),(6,.rep Tl r4.1),(7,I y7.2.2.2.1)] ([.sl z8.1 22 .val (List.set (na z8.2 0 y7.2.2.2.2) (Int.toNat e.1) l),.sl l 3 Ti (x++[u]),.obj c 69 (.agg (.pair (.rep Tl e.2.1) (.pair (I e.2.2.1) (.eq (.int .u64 e.2.2.2)))))]++(mT z8.2 0 y7.2.2.2.2).eraseIdx (Int.toNat e.1));refine bj 1 rfl ?_;refine ce (AB (pre:=[.obj c 69 (.agg (.pair (.rep Tl e.2.1) (.pair (I e.2.2.1) (.eq (.int .u64 e.2.2.2)))))]) (z:=z8) (i:=Int.toNat e.1) (Bh s).2) ?_;refine bn ?_;exact t6 ((z8.1,zC z8.2 (Int.toNat e.1) l),(e.2.1,e.2.2.1,e.2.2.2,List.set y7.2.2.2.2 (Int.toNat e.1) (x++[u]))) h (jY [.obj c 69 (.agg (.pair (.rep Tl e.2.1) (.pair (I e.2.2.1) (.eq (.int .u64 e.2.2.2)))))] (wh 22 (z8.1,zC z8.2 (Int.toNat e.1) l) (List.set y7.2.2.2.2 (Int.toNat e.1) (x++[u]))) [0] ⟨rfl,rfl,rfl,rfl,trivial⟩ rfl)
   .refine ab (mq ?_);obtain⟨mc,M,h⟩:=aa h;refine jb (bA rfl M) ?_;refine aq (nl ?_);exact t6 (y,(x9.1,x9.2.1,x9.2.2.1,mc,x9.2.2.2)) h (jY [.obj c 69 (.agg (.pair (.rep Tl x9.1) (.pair (I x9.2.1) (.eq (.int .u64 x9.2.2.1)))))] (wh 22 y x9.2.2.2) [0] ⟨rfl,rfl,rfl,rfl,trivial⟩ rfl)
  .refine xa ?_;exact t6 (z8,(y7.1,y7.2.1,y7.2.2.1,y7.2.2.2.2)) h (jY [.obj c 69 (.agg (.pair (.rep Tl y7.1) (.pair (I y7.2.1) (.eq (.int .u64 y7.2.2.1)))))] (wh 22 z8 y7.2.2.2.2) [0] ⟨rfl,trivial⟩ rfl)
 .
  refine sr (mq ?_);refine aq (nt (ay ?_));refine ce (Hg (pre:=[.obj c 69 (.agg (.pair (.rep Tl x5.1) (.pair (I x5.2.1) (.eq (.int .u64 x5.2.2.1)))))])) ?_;refine ce (iG [4,5,41] ⟨rfl,rfl,rfl,trivial⟩) ?_;cases h;exact aM () [_] 1 ⟨rfl,trivial⟩ rfl
def eP(k:Nat)(r2:Int×bP):Nat->((List Int)×Int×Int×(List (List (List Int)))×Int)->Option ((List (List (List Int)))×(List Int)×Int×Int)
 |0,_=>none
 |n+1,c=>
  if 0 < c.2.2.2.2 then(((((if 0 < (c.2.2.2.1.length:Int) then((eD k (c.1,c.2.1,c.2.2.1) 3).bind λl=>
  some (l.2.1,l.2.2.1,l.2.2.2,l.1)) else(some (c.1,c.2.1,c.2.2.1,false))):Option ((List Int)×Int×Int×Bool)).bind λe=>
  if e.2.2.2=true then((ck ((c.2.2.2.1.length:Int) - 1)).bind λx=>
  (aU c.2.2.2.1 x).bind λu=>
  (gA k u).bind λr=>
  (cO (cE (length c.2.2.2.1+length [r]))).bind λ_=>
  some (e.1,e.2.1,e.2.2.1,c.2.2.2.1++[r])) else((jq k (e.1,e.2.1,e.2.2.1) r2.1).bind λh=>
  (cO (cE (length c.2.2.2.1+length [h.1]))).bind λ_=>
  some (h.2.1,h.2.2.1,h.2.2.2,c.2.2.2.1++[h.1]))):Option ((List Int)×Int×Int×(List (List (List Int))))).bind λj=>
  (ck (c.2.2.2.2 - 1)).bind λs=>
  eP k r2 n (j.1,j.2.1,j.2.2.1,j.2.2.2,s)) else(some (c.2.2.2.1,c.1,c.2.1,c.2.2.1))
def ia(k:Nat)(a0:bP)(a1:Int)(a2:Int):Option (ah×bP):=
 (eY k (a0.1,a0.2.1,a0.2.2) 1 a1).bind λr2=>
 (cS k (r2.2.1,r2.2.2.1,r2.2.2.2) 3).bind λr3=>
 (fY k (r3.2.1,r3.2.2.1,r3.2.2.2) [0,1,1,2,r3.1]).bind λr4=>
 (cS k (r4.2.1,r4.2.2.1,r4.2.2.2) 3).bind λr5=>
 (fY k (r5.2.1,r5.2.2.1,r5.2.2.2) [0,1,2,r5.1]).bind λr6=>
 (eY k (r6.2.1,r6.2.2.1,r6.2.2.2) 1 3).bind λr7=>
 (fY k (r7.2.1,r7.2.2.1,r7.2.2.2) [1,2,r7.1]).bind λr8=>
 (((eY k (r8.2.1,r8.2.2.1,r8.2.2.2) 1 a2).bind λe=>
 eP k r2 k (e.2.1,e.2.2.1,e.2.2.2,([]:(List (List (List Int)))),e.1)):Option ((List (List (List Int)))×(List Int)×Int×Int)).bind λc=>
 some ((r2.1,r4.1,r6.1,r8.1,c.1,[]),(c.2.1,c.2.2.1,c.2.2.2))
theorem tA(k:Nat)(a0:bP)(c:Nat)(a1:Int)(a2:Int)(r:ah×bP)(h:ia k a0 a1 a2=some r):
 dx Tryz.prog 27 [Pt c,I a1,I a2] [.obj c 69 (.agg (.pair (.rep Tl a0.1) (.pair (I a0.2.1) (.eq (.int .u64 a0.2.2)))))] (λ_:Unit=>(bI [.agg (.pair (I r.1.1) (.pair (I r.1.2.1) (.pair (I r.1.2.2.1) (.pair (I r.1.2.2.2.1) (.pair (.rep (.slice (.slice Tl)) r.1.2.2.2.2.1) (.eq (.slice none 0 0)))))))],[.obj c 69 (.agg (.pair (.rep Tl r.2.1) (.pair (I r.2.2.1) (.eq (.int .u64 r.2.2.2)))))])):=by
 unfold ia at h
 replace h:=bg h
 refine dx.of 67 Tryz.func27 rfl Tryz.ntmps27 rfl λS w0=>?_
 refine sr ?_
 refine aY rfl rfl rfl (bz rfl Cj JL) trivial λb1=>?_
 refine nt ?_
 refine sr ?_
 iterate 2 refine mq ?_
 obtain⟨r2,SI,h⟩:=aa h
 have SR:=iz k (a0.1,a0.2.1,a0.2.2) c 1 a1 r2 SI
 refine fr 1 ?_
 refine kc (av [.tmp 10,.const (.int .i64 (1)),.tmp 11] rfl rfl Jm rfl SR) ?_
 iterate 2 refine mq ?_
 obtain⟨r3,SH,h⟩:=aa h
 have SQ:=dk k (r2.2.1,r2.2.2.1,r2.2.2.2) c 3 r3 SH
 refine kb (av [.tmp 14,.const (.int .i64 (3))] rfl rfl An rfl SQ) ?_
 refine bT rfl (bb (t:=Ti) [(.const (.int .i64 (0)),_),(.const (.int .i64 (1)),_),(.const (.int .i64 (1)),_),(.const (.int .i64 (2)),_),(.tmp 15,_)] [0,1,1,2,r3.1] rfl rfl dA (.cons rfl .int (.cons rfl .int (.cons rfl .int (.cons rfl .int (.cons rfl .int .nil))))) rfl rfl) ⟨rfl,rfl,rfl,rfl,rfl,trivial⟩ ?_
 obtain⟨r4,SG,h⟩:=aa h
 have SO:=kL k (r3.2.1,r3.2.2.1,r3.2.2.2) c [0,1,1,2,r3.1] r4 SG
 refine kb (av [.tmp 13,.tmp 16] rfl rfl MJ rfl SO) ?_
 iterate 2 refine mq ?_
 obtain⟨r5,SD,h⟩:=aa h
 have SN:=dk k (r4.2.1,r4.2.2.1,r4.2.2.2) c 3 r5 SD
 refine kb (av [.tmp 19,.const (.int .i64 (3))] rfl rfl An rfl SN) ?_
 refine bT rfl (bb (t:=Ti) [(.const (.int .i64 (0)),_),(.const (.int .i64 (1)),_),(.const (.int .i64 (2)),_),(.tmp 20,_)] [0,1,2,r5.1] rfl rfl dA (.cons rfl .int (.cons rfl .int (.cons rfl .int (.cons rfl .int .nil)))) rfl rfl) ⟨rfl,rfl,rfl,rfl,trivial⟩ ?_
 obtain⟨r6,SC,h⟩:=aa h
 have SL:=kL k (r5.2.1,r5.2.2.1,r5.2.2.2) c [0,1,2,r5.1] r6 SC
 refine kb (av [.tmp 18,.tmp 21] rfl rfl MJ rfl SL) ?_
 iterate 2 refine mq ?_
 obtain⟨r7,SB,h⟩:=aa h
 have SK:=iz k (r6.2.1,r6.2.2.1,r6.2.2.2) c 1 3 r7 SB
 refine kc (av [.tmp 24,.const (.int .i64 (1)),.const (.int .i64 (3))] rfl rfl Jm rfl SK) ?_
 refine jc (bb (t:=Ti) [(.const (.int .i64 (1)),_),(.const (.int .i64 (2)),_),(.tmp 25,_)] [1,2,r7.1] rfl rfl dA (.cons rfl .int (.cons rfl .int (.cons rfl .int .nil))) rfl rfl) ?_
 obtain⟨r8,SA,h⟩:=aa h
 have SJ:=kL k (r7.2.1,r7.2.2.1,r7.2.2.2) c [1,2,r7.1] r8 SA
 refine kb (av [.tmp 23,.tmp 26] rfl rfl MJ rfl SJ) ?_
 refine bT rfl (dO [(0,.tmp 12,_),(1,.tmp 17,_),(2,.tmp 22,_),(3,.tmp 27,_)] rfl N7 Cj KU (jO ⟨rfl,rfl,rfl,rfl,trivial⟩) rfl) ⟨rfl,rfl,rfl,rfl,trivial⟩ ?_
 refine aY rfl rfl rfl (bz rfl Cj JL) trivial λb9=>?_
 refine aS rfl rfl (aO rfl iM trivial rfl rfl) ⟨rfl,rfl,trivial⟩ ?_
 refine nt ?_
 refine aH (Z:=Value) (α:=(List (List (List Int)))×(List Int)×Int×Int) (λJ y=>[(6,Pt b1),(7,Pt b9)]) (λJ y=>[.obj b1 26 (.agg (.pair (I 0) (.pair (I 0) (.pair (I 0) (.pair (I 0) (.pair (.eq (.slice none 0 0)) (.eq (.slice none 0 0)))))))),.obj b9 26 (.agg (.pair (I r2.1) (.pair (I r4.1) (.pair (I r6.1) (.pair (I r8.1) (.pair (.eq J) (.eq (.slice none 0 0)))))))),.sl J 30 (.slice Tl) y.1,.obj c 69 (.agg (.pair (.rep Tl y.2.1) (.pair (I y.2.2.1) (.eq (.int .u64 y.2.2.2)))))]) h (λK h=>?_) (λJ y h=>?_)
 .
  refine sr ?_;iterate 2 refine mq ?_
  obtain⟨F,zz,h⟩:=aa h;refine fr 1 ?_;refine kc (av [.tmp 29,.const (.int .i64 (1)),.tmp 30] rfl rfl Jm rfl (iz k (r8.2.1,r8.2.2.1,r8.2.2.2) c 1 a2 F zz)) ?_;refine aq (nt (aj ?_));refine iL (SE.nil 30 (.slice Tl)) ?_;refine aF (λu e=>[(0,Pt c),(6,Pt b1),(7,Pt b9),(8,I e.2.2.2.2)]) (λu e=>[.obj c 69 (.agg (.pair (.rep Tl e.1) (.pair (I e.2.1) (.eq (.int .u64 e.2.2.1))))),.obj b1 26 (.agg (.pair (I 0) (.pair (I 0) (.pair (I 0) (.pair (I 0) (.pair (.eq (.slice none 0 0)) (.eq (.slice none 0 0)))))))),.obj b9 26 (.agg (.pair (I r2.1) (.pair (I r4.1) (.pair (I r6.1) (.pair (I r8.1) (.pair (.eq u) (.eq (.slice none 0 0)))))))),.sl u 30 (.slice Tl) e.2.2.2.1]) (eP k r2) k (.slice none 0 0) (F.2.1,F.2.2.1,F.2.2.2,([]:(List (List (List Int)))),F.1) (λ_=>rfl) h (SE.fin [1,3,2,0] ⟨rfl,rfl,rfl,rfl,trivial⟩ rfl) (λn u e h=>?_);unfold eP at h;refine ak (sr (mq ?_));refine jb (oL rfl) ?_;refine nt (ci h (λh=>?_) (λh=>?_))
  .refine sk (aH (Z:=Value) (α:=(List Int)×Int×Int×(List (List (List Int)))) (λD l=>[(0,Pt c),(6,Pt b1),(7,Pt b9),(8,I e.2.2.2.2)]) (λD l=>[.obj c 69 (.agg (.pair (.rep Tl l.1) (.pair (I l.2.1) (.eq (.int .u64 l.2.2.1))))),.obj b1 26 (.agg (.pair (I 0) (.pair (I 0) (.pair (I 0) (.pair (I 0) (.pair (.eq (.slice none 0 0)) (.eq (.slice none 0 0)))))))),.obj b9 26 (.agg (.pair (I r2.1) (.pair (I r4.1) (.pair (I r6.1) (.pair (I r8.1) (.pair (.eq D) (.eq (.slice none 0 0)))))))),.sl D 30 (.slice Tl) l.2.2.2]) h (λK h=>?_) (λD l h=>?_))
   .refine aj (ak (sr (fl eE ?_)));refine fr 2 ?_;refine lo lD ?_;refine fr 3 ?_;refine ka (lR rfl rfl AA) ?_;refine aq (nt ?_);refine aH (Z:=Unit) (α:=(List Int)×Int×Int×Bool) (λQ j=>[(0,Pt c),(6,Pt b1),(7,Pt b9),(8,I e.2.2.2.2),(9,I (e.2.2.2.1.length:Int)),(44,.eq (.bool j.2.2.2))]) (λQ j=>[.obj c 69 (.agg (.pair (.rep Tl j.1) (.pair (I j.2.1) (.eq (.int .u64 j.2.2.1))))),.obj b1 26 (.agg (.pair (I 0) (.pair (I 0) (.pair (I 0) (.pair (I 0) (.pair (.eq (.slice none 0 0)) (.eq (.slice none 0 0)))))))),.obj b9 26 (.agg (.pair (I r2.1) (.pair (I r4.1) (.pair (I r6.1) (.pair (I r8.1) (.pair (.eq u) (.eq (.slice none 0 0)))))))),.sl u 30 (.slice Tl) e.2.2.2.1]) h (λK h=>?_) (λQ j h=>?_)
    .refine ab (mq ?_);refine jb (oL rfl) ?_;refine mq ?_;refine cD (s:=41) rfl (λhb=>?_) (λhb=>?_)
     .replace h:=eU (uF hb) h;refine gm ?_;obtain⟨E,qt,h⟩:=aa h;refine fr 2 ?_;refine lH rfl rfl rfl rfl rfl rfl (av [.tmp 42,.const (.int .i64 (3))] rfl rfl MI rfl (iT k (e.1,e.2.1,e.2.2.1) c 3 E qt)) ⟨rfl,rfl,trivial⟩ ?_;refine pt (nl ?_);exact jz ((),(E.2.1,E.2.2.1,E.2.2.2,E.1)) h [0,3,2,1]
     .replace h:=c6 (uG hb) h;iterate 2 refine gn ?_
      refine pf (nl ?_);exact jz ((),(e.1,e.2.1,e.2.2.1,false)) h [2,3,1,0]
    .refine cv h (λh=>?_) (λh=>?_)
     .refine ak (cP ?_);refine da (aG rfl eE) ?_;refine ea 2 (ax rfl lD o9 rfl) ?_;refine da (aG rfl eE) ?_;refine ea 2 (ax rfl lD o9 rfl) ?_;refine dm ?_;obtain⟨Sl,X,h⟩:=aa h;refine db (eI rfl X) ?_;obtain⟨Sj,M,h⟩:=aa h;refine eb 3 (cx (t:=(.slice Tl)) rfl AA xH M) ?_;refine ea 3 (f9 (i:=Int.toNat Sl) (off:=0) rfl xH (λ_=>rfl) rfl (dp M).2.2 rfl) ?_;obtain⟨O,mw,h⟩:=aa h;refine da (BR (av [.tmp 52] rfl rfl QR rfl (rp k Sj O mw))) ?_;refine da (bb (t:=(.slice Tl)) [(.tmp 53,_)] [O] rfl rfl zB (.cons rfl .rep .nil) rfl rfl) ?_;refine df ew ?_;obtain⟨SU,gw,h⟩:=aa h;refine fr 3 ?_;refine dV rfl rfl rfl (cI rfl rfl zB (am gw)) ⟨rfl,rfl,trivial⟩ λSz=>?_;refine fl eE ?_;refine t4 λo25=>?_;refine fr 3 ?_;refine aS rfl rfl (aO rfl lD o25 rfl rfl) ⟨rfl,rfl,trivial⟩ ?_;refine nt (fP (bQ (c8 (an ?_))));exact jz (Sz,(j.1,j.2.1,j.2.2.1,e.2.2.2.1++[O])) h [2,3,0,1]
     .refine sk (cP ?_);refine da (aG rfl eE) ?_;refine ea 2 (ax rfl lD o9 rfl) ?_;refine dm ?_;refine da (aG rfl fH) ?_;refine ea 2 (ax rfl cG o9 rfl) ?_;obtain⟨x,mc,h⟩:=aa h;refine Ce 0 rfl rfl rfl rfl (av [.tmp 59,.tmp 61] rfl rfl QQ rfl (tw k (j.1,j.2.1,j.2.2.1) c r2.1 x mc)) ⟨rfl,rfl,trivial⟩ ?_;refine da (bb (t:=(.slice Tl)) [(.tmp 62,_)] [x.1] rfl rfl zB (.cons rfl .rep .nil) rfl rfl) ?_;refine Cf (Δ':=[.obj b1 26 (.agg (.pair (I 0) (.pair (I 0) (.pair (I 0) (.pair (I 0) (.pair (.eq (.slice none 0 0)) (.eq (.slice none 0 0)))))))),.obj b9 26 (.agg (.pair (I r2.1) (.pair (I r4.1) (.pair (I r6.1) (.pair (I r8.1) (.pair (.eq u) (.eq (.slice none 0 0)))))))),.sl u 30 (.slice Tl) e.2.2.2.1,.obj c 69 (.agg (.pair (.rep Tl x.2.1) (.pair (I x.2.2.1) (.eq (.int .u64 x.2.2.2)))))]) (by kernel_rfl) ew (by kernel_rfl) ?_;obtain⟨SS,Y,h⟩:=aa h;refine fr 2 ?_;refine dV rfl rfl rfl (cI rfl rfl zB (am Y)) ⟨rfl,rfl,trivial⟩ λSr=>?_;refine fl eE ?_;refine t4 λo29=>?_;refine fr 2 ?_;refine aS rfl rfl (aO rfl lD o29 rfl rfl) ⟨rfl,rfl,trivial⟩ ?_;refine aE (bn ?_);exact jz (Sr,(x.2.1,x.2.2.1,x.2.2.2,e.2.2.2.1++[x.1])) h [3,2,0,1]
   .refine ab (mq ?_);obtain⟨Si,U,h⟩:=aa h;refine jb (eI rfl U) ?_;refine aq (nl ?_);exact jz (D,(l.1,l.2.1,l.2.2.1,l.2.2.2,Si)) h [0,1,2,3]
  .refine xa ?_;exact jz (u,(e.2.2.2.1,e.1,e.2.1,e.2.2.1)) h [1,2,3,0]
 .
  refine sr (fr 1 ?_);refine fr 2 ?_;refine eC (pG (off:=4) [] trivial rfl rfl) ?_;refine lo iM ?_;refine fr 1 ?_;refine aS rfl rfl (aO rfl iM trivial rfl rfl) ⟨rfl,rfl,trivial⟩ ?_;refine nt (ay (ce (SE.fin (Γ':=[(6,_)]) [2,0,1] ⟨rfl,trivial⟩ rfl) ?_));cases h;exact aM () [.agg (.pair (I r2.1) (.pair (I r4.1) (.pair (I r6.1) (.pair (I r8.1) (.pair (.rep (.slice (.slice Tl)) y.1) (.eq (.slice none 0 0)))))))] 1 ⟨⟨_,_,_,_,_,rfl,(.tail _ (.head _)),iM,(uc),rfl⟩,trivial⟩ rfl
def eg(k:Nat)(a0:ah)(a1:(List Int)):Nat->(Int×Int)->Option (Except ((Option ah)×Int×Int) Int)
 |0,_=>none
 |n+1,y5=>
  if y5.2 < (a1.length:Int) then((aU a1 y5.2).bind λx7=>
  (ck (a0.1 - 1)).bind λx8=>
  (dj k x7 0 x8).bind λr9=>
  if¬(r9=true) then(some (.error (none,0,3))) else(((if 0 < y5.2 then((ck (y5.2 - 1)).bind λh=>
  (aU a1 h).bind λe=>
  some (decide (x7≤e))) else(some false)):Option (Bool)).bind λj=>
  if j=true then(some (.error (none,0,5))) else((fo k y5.1 x7).bind λl=>
  (ck (y5.2+1)).bind λc=>
  eg k a0 a1 n (l,c)))) else(some (.ok y5.1))
def dc(k:Nat)(a0:ah)(h:Int)(e:(List Int)):Nat->Int->Option (Except ((Option ah)×Int×Int) Unit)
 |0,_=>none
 |n+1,c=>
  if c < (e.length:Int) then((aU e c).bind λu=>
  (ck (a0.1 - 1)).bind λs=>
  (ck ((a0.2.2.2.2.1.length:Int) - 1)).bind λr=>
  (aU [s,r,(a0.2.2.2.2.1.length:Int)] h).bind λl=>
  (dj k u 0 l).bind λx=>
  if¬(x=true) then(some (.error (none,0,3))) else((ck (c+1)).bind λj=>
  dc k a0 h e n j)) else(some (.ok ()))
def cJ(k:Nat)(a0:ah)(a2:(List Int))(a3:(List Int))(a4:(List Int)):Nat->Int->Option (Except ((Option ah)×Int×Int) Unit)
 |0,_=>none
 |n+1,c=>
  if c < ([a2,a3,a4].length:Int) then(bE (α:=Unit) ((aU [a2,a3,a4] c).bind λj=>
  dc k a0 c j k 0) (λe=>some (.error e)) λ_=>
  (ck (c+1)).bind λh=>
  cJ k a0 a2 a3 a4 n h) else(some (.ok ()))
def jo(k:Nat)(a0:ah)(a1:(List Int))(a2:(List Int))(a3:(List Int))(a4:(List Int)):Option ((Option ah)×Int×Int):=
 (lV k a0).bind λr2=>
 if¬(r2=0) then(some (none,0,r2)) else(bE (α:=Int) (eg k a0 a1 k (0,0)) (some) λx3=>
 bE (α:=Unit) (cJ k a0 a2 a3 a4 k 0) (some) λ_=>
 (ir k a0).bind λe=>
 fJ e (none) (λc=>(dP k c).bind λh=>
 some (some c,x3,0)))
theorem lm(k:Nat)(a0:ah)(a1:(List Int))(a2:(List Int))(a3:(List Int))(a4:(List Int))(r:(Option ah)×Int×Int)(h:jo k a0 a1 a2 a3 a4=some r):
 bX (dF Tryz.prog) 37 [.rep au a0,.rep Tl a1,.rep Tl a2,.rep Tl a3,.rep Tl a4] [] (λz:Nat×Nat=>(bI [Iu r.1 z.1,.eq (.int .u8 r.2.1),I r.2.2],It r.1 λq=>pI q z.1 z.2 k)):=by
 unfold jo at h
 replace h:=bg h
 refine bX.of 95 Tryz.func37 rfl Tryz.ntmps37 rfl λS w0=>?_
 refine sr ?_
 refine bx λb1=>?_
 refine cq ?_
 refine cq ?_
 refine cq ?_
 refine nt ?_
 refine ak ?_
 refine sr ?_
 refine lo iM ?_
 obtain⟨r2,SV,h⟩:=aa h
 have SX:=ww k a0 r2 SV
 refine ja (av [.tmp 22] rfl rfl QM rfl SX) ?_
 refine aq ?_
 refine nt ?_
 refine sr ?_
 refine mq ?_
 refine jb (eL rfl) ?_
 refine nt ?_
 refine cn h (λh=>?_) (λh=>?_)
 .
  refine sr (mq ?_);refine cq ?_;refine cq ?_;refine aq (nt (rx ?_));cases h;exact aM (0,0) [.eq (.pointer none),_,_] 0 ⟨rfl,rfl,rfl,trivial⟩ rfl
 .
  refine sk (sr (cq (nt ?_)));refine dw (Z:=Unit) (α:=Int) (λz4 x3=>[(2,.rep Tl a2),(3,.rep Tl a3),(4,.rep Tl a4),(5,Pt b1),(14,.eq (.int .u8 x3))]) (λz4 x3=>[.obj b1 26 (.rep au a0)]) (λe=>e=r) h (λe h=>Option.some.inj h) (λK hR h=>?_) (λz4 x3 h=>?_)
  .refine sr (mq ?_);refine ol iE ?_;refine eK rfl ?_;refine nt (aj (aF (λz6 y5=>[(1,.rep Tl a1),(2,.rep Tl a2),(3,.rep Tl a3),(4,.rep Tl a4),(5,Pt b1),(14,.eq (.int .u8 y5.1)),(27,.rep Tl a1),(28,I (a1.length:Int)),(29,I y5.2)]) (λz6 y5=>[.obj b1 26 (.rep au a0)]) (eg k a0 a1) k () (0,0) (λ_=>rfl) h (SE.fin [0] ⟨rfl,rfl,rfl,rfl,rfl,rfl,rfl,rfl,rfl,trivial⟩ rfl) (λn z6 y5 h=>?_)));unfold eg at h;refine sr (jb (bJ rfl) ?_);refine nt (ak (ci h (λh=>?_) (λh=>?_)))
   .refine sk (ak (aj (sr (mq ?_))));obtain⟨x7,SS,h⟩:=aa h;refine jb (aX (t:=Ti) rfl iE cG SS) ?_;refine ja (ap (t:=Ti) rfl cG rfl) ?_;refine aq ?_;refine aq (nt (ak (sr ?_)));refine mq ?_;refine fl fH ?_;refine lo cG ?_;obtain⟨x8,SR,h⟩:=aa h;refine jb (eI rfl SR) ?_;obtain⟨r9,SU,h⟩:=aa h;refine jc (av [.tmp 34,.const (.int .i64 (0)),.tmp 37] rfl rfl wK rfl (du k x7 0 x8 r9 SU)) ?_;refine ja (hH rfl) ?_;refine nt (cw h (λh=>?_) (λh=>?_))
    .refine sr (cq ?_);refine cq ?_;refine cq (nt (rx (br (bD (bC ?_)))));obtain rfl:=hR _ h;exact aM (0,0) [.eq (.pointer none),_,_] 0 ⟨rfl,rfl,rfl,trivial⟩ rfl
    .refine sk (ak (aH (Z:=Unit) (α:=Bool) (λO y=>[(1,.rep Tl a1),(2,.rep Tl a2),(3,.rep Tl a3),(4,.rep Tl a4),(5,Pt b1),(14,.eq (.int .u8 y5.1)),(16,I x7),(27,.rep Tl a1),(28,I (a1.length:Int)),(29,I y5.2),(50,.eq (.bool y))]) (λO y=>[.obj b1 26 (.rep au a0)]) h (λK h=>?_) (λO y h=>?_)))
     .refine ab (mq ?_);refine jb (oL rfl) ?_;refine mq ?_;refine cD (s:=42) rfl (λhb=>?_) (λhb=>?_)
      .replace h:=eU (uF hb) h;refine gm ?_;refine gm ?_;refine gm ?_;obtain⟨S5,Sz,h⟩:=aa h;refine gb (eI rfl Sz) ?_;obtain⟨SL,Sr,h⟩:=aa h;refine gb (aX (t:=Ti) rfl iE cG Sr) ?_;refine ga (ap (t:=Ti) rfl cG rfl) ?_;refine gb (AY rfl) ?_;refine pt (nl ?_);exact jz ((),decide (x7≤SL)) h [0]
      .replace h:=c6 (uG hb) h;iterate 7 refine gn ?_
       refine pf (nl ?_);exact jz ((),false) h [0]
     .refine cv h (λh=>?_) (λh=>?_)
      .refine sr (cq ?_);refine cq ?_;refine cq (nt (rx (br (bD (bC ?_)))));obtain rfl:=hR _ h;exact aM (0,0) [.eq (.pointer none),_,_] 0 ⟨rfl,rfl,rfl,trivial⟩ rfl
      .refine sk (ab ?_);iterate 2 refine mq ?_
       obtain⟨Y,SD,h⟩:=aa h;refine jb (av [.tmp 51,.tmp 52] rfl rfl MK rfl (jI k y5.1 x7 Y SD)) ?_;refine aq (aE (aR (tn (ab ?_))));obtain⟨SK,Sl,h⟩:=aa h;refine jb (bA rfl Sl) ?_;refine mq (nl ?_);exact jz ((),(Y,SK)) h [0]
   .refine xa ?_;exact jz ((),y5.1) h [0]
  .refine dw (Z:=Unit) (α:=Unit) (λM U=>[(5,Pt b1),(14,.eq (.int .u8 x3))]) (λM U=>[.obj b1 26 (.rep au a0)]) (λe=>e=r) h (λe h=>Option.some.inj h) (λK hR h=>?_) (λM U h=>?_)
   .refine sr ?_;iterate 3 refine mq ?_
    refine jc (bb (t:=Tl) [(.tmp 55,_),(.tmp 56,_),(.tmp 57,_)] [a2,a3,a4] rfl rfl oz (.cons rfl .rep (.cons rfl .rep (.cons rfl .rep .nil))) rfl rfl) ?_;refine ol rW ?_;refine eK rfl ?_;refine nt (aj (aF (λJ c=>[(5,Pt b1),(14,.eq (.int .u8 x3)),(58,.rep (.slice Tl) [a2,a3,a4]),(59,I ([a2,a3,a4].length:Int)),(60,I c)]) (λJ c=>[.obj b1 26 (.rep au a0)]) (cJ k a0 a2 a3 a4) k () 0 (λ_=>rfl) h (SE.fin [0] ⟨rfl,rfl,rfl,rfl,rfl,trivial⟩ rfl) (λn J c h=>?_)));unfold cJ at h;refine sr (jb (bJ rfl) ?_);refine nt (ak (ci h (λh=>?_) (λh=>?_)))
    .refine sk (dw (Z:=Unit) (α:=Unit) (λE Q=>[(5,Pt b1),(14,.eq (.int .u8 x3)),(58,.rep (.slice Tl) [a2,a3,a4]),(59,I ([a2,a3,a4].length:Int)),(60,I c)]) (λE Q=>[.obj b1 26 (.rep au a0)]) (λe=>e=r) h (λe h=>hR e h) (λK hR h=>?_) (λE Q h=>?_))
     .refine aj (sr (mq ?_));obtain⟨x,Sj,h⟩:=aa h;refine jb (aX (t:=Tl) rfl rW ii Sj) ?_;refine ja (ap (t:=Tl) rfl ii rfl) ?_;refine aq ?_;refine aq (nt (sr ?_));refine mq ?_;refine ol iE ?_;refine eK rfl ?_;refine nt (aj (aF (λD u=>[(5,Pt b1),(14,.eq (.int .u8 x3)),(17,I c),(58,.rep (.slice Tl) [a2,a3,a4]),(59,I ([a2,a3,a4].length:Int)),(60,I c),(65,.rep Tl x),(66,I (x.length:Int)),(67,I u)]) (λD u=>[.obj b1 26 (.rep au a0)]) (dc k a0 c x) k () 0 (λ_=>rfl) h (SE.fin [0] ⟨rfl,rfl,rfl,rfl,rfl,rfl,rfl,rfl,rfl,trivial⟩ rfl) (λn D u h=>?_)));unfold dc at h;refine sr (jb (bJ rfl) ?_);refine nt (ak (ci h (λh=>?_) (λh=>?_)))
      .refine sk (ak (aj (sr ?_)));obtain⟨SJ,Si,h⟩:=aa h;refine jb (aX (t:=Ti) rfl iE cG Si) ?_;refine ja (ap (t:=Ti) rfl cG rfl) ?_;refine aq (nt (sr ?_));refine mq ?_;refine fl fH ?_;refine lo cG ?_;obtain⟨SZ,zz,h⟩:=aa h;refine jb (eI rfl zz) ?_;refine fl eE ?_;refine lo lD ?_;refine ol AA ?_;obtain⟨SY,qt,h⟩:=aa h;refine jb (eI rfl qt) ?_;refine fl eE ?_;refine lo lD ?_;refine ol AA ?_;refine jc (CX rfl Po cG NN) ?_;refine mq ?_;obtain⟨SI,mw,h⟩:=aa h;refine jb (nq (t:=Ti) rfl Po cG rfl rfl (λ_=>rfl) mw) ?_;obtain⟨SO,SC,h⟩:=aa h;refine jc (av [.tmp 71,.const (.int .i64 (0)),.tmp 84] rfl rfl wK rfl (du k SJ 0 SI SO SC)) ?_;refine ja (hH rfl) ?_;refine nt (cw h (λh=>?_) (λh=>?_))
       .refine sr (cq ?_);refine cq ?_;refine cq (nt (ay (br (bD (br (bD (bC ?_)))))));obtain rfl:=hR _ h;exact aM (0,0) [.eq (.pointer none),_,_] 0 ⟨rfl,rfl,rfl,trivial⟩ rfl
       .refine be (aR (tn (ab ?_)));obtain⟨SH,mc,h⟩:=aa h;refine jb (bA rfl mc) ?_;refine mq (nl ?_);exact jz ((),SH) h [0]
      .refine fP (bQ (bQ (c8 (bn ?_))));exact jz ((),()) h [0]
     .refine ab ?_;obtain⟨SG,gw,h⟩:=aa h;refine jb (bA rfl gw) ?_;refine mq (nl ?_);exact jz ((),SG) h [0]
    .refine xa ?_;exact jz ((),()) h [0]
   .refine sr (lo iM ?_);obtain⟨X,SB,h⟩:=aa h;have j:=mN k a0 X SB;rcases hr:X with _ |SQ
    .rw [hr] at h j;replace h:=uI h;refine aI (Δ:=[]) (F:=_) (λ_ _ _=>ae rfl _) rfl rfl (av [.tmp 89] rfl rfl Jl rfl j) ⟨rfl,trivial⟩ λ_=>?_;cases h
    .rw [hr] at h j;replace h:=uH h;refine aI (Δ:=[]) (F:=_) (λ_ _ _=>ae rfl _) rfl rfl (av [.tmp 89] rfl rfl Jl rfl j) ⟨rfl,trivial⟩ λl=>?_;refine aq (nt (sr ?_));refine mq ?_;obtain⟨SN,SA,h⟩:=aa h;refine fr 1 ?_;refine fr 1 ?_;refine aI (Δ:=[_,_]) (F:=_) (λ_ _ _=>ae rfl _) rfl rfl (aV [.tmp 91] rfl rfl QL rfl (pg k SQ l.1 l.2 SN SA)) ⟨rfl,trivial⟩ λ_=>?_;refine nt (sr ?_);iterate 2 refine mq ?_
     refine aq ?_;refine aq ?_;refine cq (nt (ay ?_));cases h;exact aM (l.1,l.2) [.eq (.pointer (some ⟨l.1,0,none⟩)),_,_] 2 ⟨rfl,rfl,rfl,trivial⟩ rfl
def eo(k:Nat)(a0:ah)(a2:Int)(r1:(List (List Int))):Nat->Int->Option Bool
 |0,_=>none
 |n+1,y3=>
  if y3 < (a0.2.2.2.2.2.length:Int) then((aU a0.2.2.2.2.2 y3).bind λx5=>
  (((ee k a2 y3).bind λr9=>
  if¬(r9=true) then((aU r1 x5.2.1).bind λh=>
  (aU h x5.1).bind λe=>
  some (!decide ((decide (a0.2.2.1≤e))=x5.2.2))) else(some false)):Option (Bool)).bind λx7=>
  if x7=true then(some false) else((ck (y3+1)).bind λc=>
  eo k a0 a2 r1 n c)) else(some true)
def iv(k:Nat)(a0:ah)(a1:Int)(a2:Int):Option Bool:=
 (kZ k a0 a1).bind λr1=>
 eo k a0 a2 r1 k 0
theorem nA(k:Nat)(a0:ah)(c z_a0:Nat)(a1:Int)(a2:Int)(r:Bool)(h:iv k a0 a1 a2=some r):
 AK (dF Tryz.prog) 96 [Pt c,.eq (.int .u8 a1),.eq (.int .u8 a2)] [.obj c 129 (aN a0 z_a0),.inv z_a0 (bS k a0)] (.iface 150 (.agg #[])) r:=by
 unfold iv at h
 replace h:=bg h
 refine AK.of 48 Tryz.func96 rfl Tryz.ntmps96 rfl λS w0=>?_
 refine sr ?_
 iterate 2 refine mq ?_
 obtain⟨r1,E,h⟩:=aa h
 have J:=oe k a0 c z_a0 a1 r1 E
 refine fr 1 ?_
 refine fr 1 ?_
 refine aI (Δ:=[_,_]) (F:=_) (λ_ _ _=>ae rfl _) rfl rfl (aV [.tmp 9,.tmp 10] rfl rfl Df rfl J) ⟨rfl,rfl,trivial⟩ λ_=>?_
 refine aY rfl rfl rfl (bz rfl D4 G0) trivial λb2=>?_
 refine aS rfl rfl (aO rfl EH rfl rfl rfl) ⟨rfl,rfl,trivial⟩ ?_
 refine eC (iV (t:=(.arr 7 Tr)) (x:=r1) [6] .rep ⟨rfl,trivial⟩) ?_
 refine nt ?_
 refine sr ?_
 refine mq ?_
 refine ja (cF rfl) ?_
 refine fl gi ?_
 refine fl Af ?_
 refine lo Lp ?_
 refine ol Pn ?_
 refine eK rfl ?_
 refine nt ?_
 refine aj ?_
 refine aF (λz4 y3=>[(0,Pt c),(2,.eq (.int .u8 a2)),(6,.at (.arr 7 Tr) r1),(16,Rs bN a0.2.2.2.2.2),(17,I (a0.2.2.2.2.2.length:Int)),(18,I y3)]) (λz4 y3=>[.obj c 129 (aN a0 z_a0),.inv z_a0 (bS k a0)]) (eo k a0 a2 r1) k () 0 (λ_=>rfl) h (SE.fin [0,1] ⟨rfl,rfl,rfl,rfl,rfl,rfl,trivial⟩ rfl) (λn z4 y3 h=>?_)
 unfold eo at h
 refine sr ?_
 refine jb (bJ rfl) ?_
 refine nt ?_
 refine ak ?_
 refine ci h (λh=>?_) (λh=>?_)
 .
  refine sk (ak (aj (sr (mq ?_))));obtain⟨x5,y,h⟩:=aa h;refine jb (aX (t:=bN) rfl Pn vS y) ?_;refine ja (ap (t:=bN) rfl vS rfl) ?_;refine aY rfl rfl rfl (bz rfl HL M8) trivial λb6=>?_;refine aq ?_;refine aS rfl rfl (aO rfl vS rfl rfl rfl) ⟨rfl,rfl,trivial⟩ ?_;refine nt (aH (Z:=Unit) (α:=Bool) (λz8 x7=>[(0,Pt c),(2,.eq (.int .u8 a2)),(6,.at (.arr 7 Tr) r1),(16,Rs bN a0.2.2.2.2.2),(17,I (a0.2.2.2.2.2.length:Int)),(18,I y3),(44,.eq (.bool x7))]) (λz8 x7=>[.obj c 129 (aN a0 z_a0),.inv z_a0 (bS k a0)]) h (λK h=>?_) (λz8 x7 h=>?_))
  .refine cP ?_;refine dm ?_;refine dm ?_;obtain⟨r9,D,h⟩:=aa h;refine db (av [.tmp 23,.tmp 24] rfl rfl GI rfl (fW k a2 y3 r9 D)) ?_;refine da (hH rfl) ?_;refine xf rfl rfl rfl (bK rfl) ⟨rfl,trivial⟩ (λhb=>?_) (λhb=>?_)
   .replace h:=eU (wn hb) h;refine dG rfl rfl rfl rfl rfl (aG rfl Gz) ⟨rfl,rfl,trivial⟩ ?_;refine jZ 0 rfl rfl rfl rfl rfl rfl (ax rfl cG o9 rfl) ⟨rfl,rfl,trivial⟩ ?_;refine dG rfl rfl rfl rfl rfl (aG rfl GA) ⟨rfl,rfl,trivial⟩ ?_;refine jZ 0 rfl rfl rfl rfl rfl rfl (ax rfl cG o9 rfl) ⟨rfl,rfl,trivial⟩ ?_;obtain⟨M,l,h⟩:=aa h;refine dG rfl rfl rfl rfl rfl (bY (t:=Tr) rfl HH iJ l) ⟨rfl,rfl,rfl,trivial⟩ ?_;obtain⟨u,j,h⟩:=aa h;refine dG rfl rfl rfl rfl rfl (bY (t:=Ti) rfl Az cG j) ⟨rfl,rfl,rfl,trivial⟩ ?_;refine dG rfl rfl rfl rfl rfl (ap (t:=Ti) rfl cG rfl) ⟨rfl,rfl,trivial⟩ ?_;refine dG rfl rfl rfl rfl rfl (bK rfl) ⟨rfl,rfl,trivial⟩ ?_;refine dG rfl rfl rfl rfl rfl (cF rfl) ⟨rfl,rfl,trivial⟩ ?_;refine dG rfl rfl rfl rfl rfl (aG rfl gi) ⟨rfl,rfl,trivial⟩ ?_;refine dG rfl rfl rfl rfl rfl (aG rfl Ag) ⟨rfl,rfl,trivial⟩ ?_;refine jZ 1 rfl rfl rfl rfl rfl rfl (ax rfl cG o9 rfl) ⟨rfl,rfl,trivial⟩ ?_;refine dG rfl rfl rfl rfl rfl (jj rfl) ⟨rfl,rfl,rfl,trivial⟩ ?_;refine dG rfl rfl rfl rfl rfl (aG rfl MF) ⟨rfl,rfl,trivial⟩ ?_;refine jZ 0 rfl rfl rfl rfl rfl rfl (ax rfl RO o9 rfl) ⟨rfl,rfl,trivial⟩ ?_;refine df ew ?_;refine gb (LS rfl U4) ?_;refine pt (nl ?_);exact jz ((), !decide ((decide (a0.2.2.1≤u))=x5.2.2)) h [1,2]
   .replace h:=c6 (pX hb) h;iterate 15 refine dg ?_
    refine df ew ?_;refine gn ?_;refine pf (nl ?_);exact jz ((),false) h [1,2]
  .refine cv h (λh=>?_) (λh=>?_)
   .refine ab (bT rfl (Fj rfl Ni NL) trivial ?_);refine ja (Ff rfl Ni) ?_;refine DT rfl rfl rfl rfl ?_;refine yY ?_;refine rN ?_;refine rN ?_;refine yY ?_;refine ce (SE.fin (Γ':=[]) [0,1] trivial rfl) ?_;cases h;exact J6
   .refine be (aR (tn (ab ?_)));obtain⟨s,e,h⟩:=aa h;refine jb (bA rfl e) ?_;refine mq (nl ?_);exact jz ((),s) h [0,1]
 .
  refine fP (bQ (bQ (c8 (jB ?_))));refine ce (SE.fin (Γ':=[]) [0,1] trivial rfl) ?_;cases h;exact aM () [] 2 trivial rfl
def gZ(k:Nat)(a0:ah)(a1:Int)(a2:Int):Option Bool:=iv k a0 a1 a2
theorem KC:Nj Tryz.prog 150 (.agg #[]):=⟨⟨_,Ni⟩,λw=>by kernel_rfl⟩
theorem GK:∀(S:FS) (w:World),(A.rep (.arr 0 Ti) []).holds S w (.agg #[]):=λ_ _=>⟨[],⟨rfl,rfl⟩,rfl⟩
theorem Ku:∀w,(zeroValue 150).run Tryz.prog w= .ok (.agg #[]) w:=λw=>by kernel_rfl
theorem KW:∀S w,(A.cells S w (.rep (.arr 0 Ti) []) (Value.cells (.agg #[])).toList):=λ_ _=>⟨rfl,rfl⟩
theorem KE:dJ Tryz.prog 150 0 true:=⟨λw=>by kernel_rfl,λw=>by kernel_rfl⟩
theorem QD:ag Tryz.prog 95:=ag.of Tryz.func95 (by kernel_rfl) (by kernel_rfl)
theorem OO:ag Tryz.prog 96:=ag.of Tryz.func96 (by kernel_rfl) (by kernel_rfl)
theorem H9:dJ Tryz.prog 4 1 false:=⟨λw=>by kernel_rfl,λw=>by kernel_rfl⟩
theorem P8:∀w,(zeroValue 4).run Tryz.prog w= .ok (.bool false) w:=λw=>by kernel_rfl
theorem Re:∀S w,(A.cells S w (.eq (.bool false)) (Value.cells (.bool false)).toList):=λ_ _=>⟨rfl,rfl⟩
theorem yG:xg Tryz.prog 95 (.iface 150 (.agg #[])) 4 (.bool false):=by
 refine⟨QD,λM e0=>?_,λM e0=>?_⟩
 .refine kV.of (M:=M) (m:=.returning) (m1:=.returning) (val:=.nilIface) Tryz.func95 rfl rfl (by decide) rfl rfl (by decide) (λρ=>rfl) (λfr b cs hb hm=>EX hb hm rfl) (.inl rfl) λb S w0=>?_;refine ja (Iy GK rfl KC) ?_;refine mq ?_;refine xr ?_;refine xr ?_;refine aY rfl rfl rfl (bz rfl Ku KW) trivial λb1=>?_;refine aS rfl rfl (aO rfl KE rfl rfl rfl) ⟨rfl,rfl,trivial⟩ ?_;refine aq (nt (sr ?_));refine mq (nt ?_);refine iH rfl (λhb=>by cases hb) (λhb=>?_);refine be (jB ?_);refine ce (SE.fin (Γ':=[]) [1] trivial rfl) ?_;exact aM () [] 1 trivial rfl
 .refine kV.of (M:=M) (m:=.panicking (gr (.iface 150 (.agg #[])) false)) (m1:=.panicking (gr (.iface 150 (.agg #[])) true)) (val:=.iface 150 (.agg #[])) Tryz.func95 rfl rfl (by decide) rfl rfl (by decide) (λρ=>rfl) (λfr b cs hb hm=>EW hb hm) (.inr ⟨_,rfl⟩) λb S w0=>?_;refine ja (Ix GK rfl KC) ?_;refine mq ?_;refine xr ?_;refine xr ?_;refine aY rfl rfl rfl (bz rfl Ku KW) trivial λb1=>?_;refine aS rfl rfl (aO rfl KE rfl rfl rfl) ⟨rfl,rfl,trivial⟩ ?_;refine aq (nt (sr ?_));refine mq (nt ?_);refine iH rfl (λhb=>?_) (λhb=>by cases hb);refine ab (fr 1 ?_);refine aS rfl rfl (aO rfl H9 rfl rfl rfl) ⟨rfl,rfl,trivial⟩ ?_;refine aE (jB ?_);refine ce (SE.fin (Γ':=[]) [0] trivial rfl) ?_;exact aM () [] 1 trivial rfl
theorem mV(k:Nat)(a0:ah)(c z_a0:Nat)(a1:Int)(a2:Int)(r:Bool)(h:gZ k a0 a1 a2=some r):
 bX (dF Tryz.prog) 74 [Pt c,.eq (.int .u8 a1),.eq (.int .u8 a2)] (pI a0 c z_a0 k) (λ_:Unit=>(bI [.eq (.bool r)],pI a0 c z_a0 k)):=by
 have cr:=nA k a0 c z_a0 a1 a2 r h
 refine zb 12 Tryz.func74 rfl Tryz.ntmps74 rfl λS w0=>?_
 refine sr ?_
 refine aY rfl rfl rfl (bz rfl P8 Re) trivial λb6=>?_
 refine nt ?_
 refine sr ?_
 refine ja (qP [] [.tmp 6] [] [(Pv b6)] rfl rfl rfl) ?_
 refine Hn rfl rfl rfl rfl rfl ?_
 refine nt ?_
 refine sr ?_
 iterate 3 refine mq ?_
 refine fr 2 ?_
 refine fr 2 ?_
 cases r with
 |false=>
  refine Ho (Ss:=[Pt c,.eq (.int .u8 a1),.eq (.int .u8 a2)]) (Δ:=pI a0 c z_a0 k) (F:=[.obj b6 4 (.eq (.bool false))]) [.tmp 8,.tmp 9,.tmp 10] rfl rfl rfl rfl OO ⟨rfl,rfl,rfl,trivial⟩ cr ?_;refine rN ?_;refine ce (SE.fin (Γ':=[(6,_)]) [2,0,1] ⟨rfl,trivial⟩ rfl) ?_;refine DU yG ?_;refine ce (SE.fin (Γ':=[(6,_)]) [1,2,0] ⟨rfl,trivial⟩ rfl) ?_;exact aM () [.eq (.bool false)] 2 ⟨⟨_,_,_,_,_,rfl,(.tail _ (.tail _ (.head _))),H9,(λ_=>rfl),rfl⟩,trivial⟩ rfl
 |true=>
  refine aI (Δ:=pI a0 c z_a0 k) (F:=[.obj b6 4 (.eq (.bool false))]) (λ_ _ _=>ae rfl _) rfl rfl (aV [.tmp 8,.tmp 9,.tmp 10] rfl rfl OO rfl cr.ok) ⟨rfl,rfl,rfl,trivial⟩ λ_=>?_;refine nt (sr (fr 2 ?_));refine aS rfl rfl (aO rfl H9 rfl rfl rfl) ⟨rfl,rfl,trivial⟩ ?_;refine nt (ay (J5 yG ?_));refine ce (SE.fin (Γ':=[(6,_)]) [1,2,0] ⟨rfl,trivial⟩ rfl) ?_;exact aM () [.eq (.bool true)] 2 ⟨⟨_,_,_,_,_,rfl,(.tail _ (.tail _ (.head _))),H9,(λ_=>rfl),rfl⟩,trivial⟩ rfl
def gd(k:Nat)(a0:ah)(a1:Int):Option (List Int):=
 (lq k (uT (λ(y5:(List Int)) (p7:Int)=>
  (gZ k a0 p7 a1).bind λr9=>
  if r9=true then((cO (cE (length y5+length [p7]))).bind λ_=>
  some (y5++[p7],true)) else(some (y5,true)))) a0.1 (([]:(List Int)),false)).bind λr8=>
 if r8.2=true then(none) else(some r8.1)
theorem jP(k:Nat)(a0:ah)(c z_a0:Nat)(a1:Int)(r:(List Int))(h:gd k a0 a1=some r):
 bX (dF Tryz.prog) 38 [Pt c,.eq (.int .u8 a1)] [.obj c 129 (aN a0 z_a0),.inv z_a0 (bS k a0)] (λ_:Unit=>(bI [.rep (.slice (.int .u8)) r],[.obj c 129 (aN a0 z_a0),.inv z_a0 (bS k a0)])):=by
 unfold gd at h
 replace h:=bg h
 refine t9 23 Tryz.func38 rfl Tryz.ntmps38 rfl λS w0=>?_
 refine sr ?_
 refine bx λb1=>?_
 refine bx λb2=>?_
 refine cq ?_
 refine nt ?_
 refine sr ?_
 refine aY rfl rfl rfl (bz rfl HK JK) trivial λb3=>?_
 refine nt ?_
 refine ak ?_
 refine sr ?_
 refine fr 2 ?_
 refine lo H8 ?_
 refine ja (cF rfl) ?_
 refine fl gi ?_
 refine fl fH ?_
 refine fr 3 ?_
 refine lo cG ?_
 refine aY rfl rfl rfl (av [.tmp 11] rfl rfl OW rfl (qg a0.1)) ⟨rfl,trivial⟩ λb4=>?_
 refine nt ?_
 refine aj ?_
 refine iL (SE.nil 71 (.int .u8)) ?_
 refine dC 6 rfl ?_
 refine dC 6 rfl ?_
 refine dC 2 rfl ?_
 refine dC 6 rfl ?_
 refine dC 6 rfl ?_
 refine dC 6 rfl ?_
 refine dC 6 rfl ?_
 obtain⟨r8,s,h⟩:=aa h
 refine qB (Δ:=[.obj b4 3 (I a0.1),.obj c 129 (aN a0 z_a0),.obj b1 70 (Pt c),.obj b3 74 (.eq (.slice none 0 0)),.sl (.slice none 0 0) 71 (.int .u8) ([]:(List Int)),.obj b2 71 (.eq (.int .u8 a1)),.inv z_a0 (bS k a0)]) (F:=[]) (X:=Value) (J:=λ_=>NG r8.2) (E:=λz6=>[.obj b4 3 (I a0.1),.obj c 129 (aN a0 z_a0),.obj b1 70 (Pt c),.obj b3 74 (.eq z6),.sl z6 71 (.int .u8) r8.1,.obj b2 71 (.eq (.int .u8 a1)),.inv z_a0 (bS k a0)]) (r0:=λ_=>.tup .any) rfl rfl OR (λrec hp ha hb hs hpe hN hv l=>?_) (λdl z6=>sU (λhj=>?_) (λhj=>?_))
 .
  rcases rec with⟨st0,pe0,fn0,tm0,ps0,as0,bd0,df0⟩;dsimp only at hp ha hb hs hpe hN hv;subst hp hs hpe;have vN:yS tm0 [(2,Pt b1),(3,Pt b2),(5,Pt b3)]:=⟨congrArg A.eq (hv 2 _ rfl).symm,congrArg A.eq (hv 3 _ rfl).symm,congrArg A.eq (hv 5 _ rfl).symm,trivial⟩;refine bX.pick (M:=(dF Tryz.prog)) [1,0,2,3,4,5,6,7] [1,0,2,3,4,5,6,7] (nB (λ(z6:Value) (q:(List Int)×Bool)=>[.raw l (.loop (jF ⟨.ready,none,fn0,tm0, #[13],as0,bd0,df0⟩ (NG q.2))),.obj c 129 (aN a0 z_a0),.obj b1 70 (Pt c),.obj b3 74 (.eq z6),.sl z6 71 (.int .u8) q.1,.obj b2 71 (.eq (.int .u8 a1)),.inv z_a0 (bS k a0)]) l (uT (λ(y5:(List Int)) (p7:Int)=>
  (gZ k a0 p7 a1).bind λr9=>
  if r9=true then((cO (cE (length y5+length [p7]))).bind λ_=>
  some (y5++[p7],true)) else(some (y5,true)))) k a0.1 b4 (λz6 q p r' h=>?_) (.slice none 0 0) (([]:(List Int)),false) r8 s) rfl (λ_=>rfl) (λ_=>rfl)
  obtain⟨rq,hq,h2,rfl⟩:=sV h;obtain⟨y5,b5⟩:=q;obtain rfl:b5=false:=hq;replace h:=bg h2;obtain⟨p7,hpv⟩:∃x,x=p:=⟨_,rfl⟩;subst hpv;refine YT.pick (R':=(λz6:Value=>(.eq (.bool rq.2),[.raw l (.loop (jF ⟨.ready,none,fn0,tm0, #[13],as0,bd0,df0⟩ (NG (!rq.2)))),.obj c 129 (aN a0 z_a0),.obj b1 70 (Pt c),.obj b3 74 (.eq z6),.sl z6 71 (.int .u8) rq.1,.obj b2 71 (.eq (.int .u8 a1)),.inv z_a0 (bS k a0)]))) [0,1,2,3,4,5,6] [0,1,2,3,4,5,6] (G2 ha hb (N:=23) (Γ:=[(2,Pt b1),(3,Pt b2),(5,Pt b3)]) rfl hN (by decide) vN (λS w=>?_)) rfl (λ_=>rfl) (λ_=>rfl);refine ab (aq (nl ?_));refine yZ rfl rfl ?_;refine aj (sr (fr 2 ?_));refine lo H8 ?_;refine mq ?_;refine fr 5 ?_;refine lo oU ?_;obtain⟨r9,n,h⟩:=aa h;refine fr 6 ?_;refine fr 4 ?_;refine aI (Δ:=[_,_]) (F:=_) (λ_ _ _=>ae rfl _) rfl rfl (aV [.tmp 14,.tmp 15,.tmp 16] rfl rfl QK rfl (mV k a0 c z_a0 p7 a1 r9 n)) ⟨rfl,rfl,rfl,trivial⟩ λ_=>?_;refine nt (cv h (λh=>?_) (λh=>?_))
  .refine ab (fr 5 ?_);refine lo vR ?_;refine mq ?_;refine ja (bb (t:=(.int .u8)) [(.tmp 19,_)] [p7] rfl rfl Ik (.cons rfl .int .nil) rfl rfl) ?_;obtain⟨u,e,h⟩:=aa h;refine fr 6 ?_;refine dV rfl rfl rfl (cI rfl rfl Ik (am e)) ⟨rfl,rfl,trivial⟩ λj=>?_;refine t4 λo12=>?_;refine fr 1 ?_;refine aS rfl rfl (aO rfl vR o12 rfl rfl) ⟨rfl,rfl,trivial⟩ ?_;refine aE (aR (bj 3 rfl ?_));refine bj 4 rfl ?_;refine bj 3 rfl ?_;refine bj 3 rfl ?_;refine bj 5 rfl ?_;refine bj 5 rfl ?_;refine bj 6 rfl ?_;cases h;exact ov j 6 rfl
  .refine be (aR (bj 1 rfl ?_));refine bj 2 rfl ?_;refine bj 6 rfl ?_;refine bj 6 rfl ?_;refine bj 5 rfl ?_;refine bj 5 rfl ?_;refine bj 6 rfl ?_;cases h;exact ov z6 6 rfl
 .
  replace h:=c6 (Le hj) h;refine aR (tn (sr (fr 4 ?_)));refine lo vR ?_;refine aq (nt (ay ?_));refine bj 5 rfl ?_;refine ce (pG (off:=0) [4,22] ⟨rfl,rfl,trivial⟩ rfl rfl) ?_;refine bj 1 rfl ?_;refine BX ?_;refine ce (SE.fin (Γ':=[(4,_)]) [2,5,0,1,3,4] ⟨rfl,trivial⟩ rfl) ?_;cases h;exact aM () [_] 2 ⟨rfl,trivial⟩ rfl
 .
  replace h:=eU (Ld hj) h;cases h
def je(k:Nat)(r7:(List Int)):Nat->((List (List Int))×Int)->Option (List (List Int))
 |0,_=>none
 |n+1,y8=>
  if y8.2 < (r7.length:Int) then((aU r7 y8.2).bind λh=>
  (iq k h).bind λc=>
  (cO (cE (length y8.1+length [c]))).bind λ_=>
  (ck (y8.2+1)).bind λe=>
  je k r7 n (y8.1++[c],e)) else(some y8.1)
def pq(k:Nat)(a0:ah):Option ((List (List Int))×Int):=
 (jo k a0 ([]:(List Int)) ([]:(List Int)) ([]:(List Int)) ([]:(List Int))).bind λr2=>
 fJ r2.1 (if¬(r2.2.2=0) then(some (([]:(List (List Int))),r2.2.2)) else(none)) (λq3=>if¬(r2.2.2=0) then(some (([]:(List (List Int))),r2.2.2)) else((((gd k q3 0).bind λr7=>
 je k r7 k (([]:(List (List Int))),0)):Option ((List (List Int)))).bind λx5=>
 some (x5,0)))
theorem uC(k:Nat)(a0:ah)(r:(List (List Int))×Int)(h:pq k a0=some r):
 bX (dF Tryz.prog) 12 [.rep au a0] [] (λ_:Unit=>(bI [.rep (.slice Tl) r.1,I r.2],[])):=by
 unfold pq at h
 replace h:=bg h
 refine bX.of 33 Tryz.func12 rfl Tryz.ntmps12 rfl λS w0=>?_
 refine sr ?_
 refine bx λb1=>?_
 refine cq ?_
 refine cq ?_
 refine nt ?_
 refine sr ?_
 refine lo iM ?_
 obtain⟨r2,M,h⟩:=aa h
 have c:=lm k a0 ([]:(List Int)) ([]:(List Int)) ([]:(List Int)) ([]:(List Int)) r2 M
 rcases hr:r2.1 with _ |q3
 .
  rw [hr] at h c;replace h:=uI h;refine aI (Δ:=[]) (F:=_) (λ_ _ _=>ae rfl _) rfl rfl (bB (N:=[(.tmp 11,.rep au a0),(.const (.slice none 0 0),.eq (.slice none 0 0)),(.const (.slice none 0 0),.eq (.slice none 0 0)),(.const (.slice none 0 0),.eq (.slice none 0 0)),(.const (.slice none 0 0),.eq (.slice none 0 0))]) (aV [.tmp 11,.const (.slice none 0 0),.const (.slice none 0 0),.const (.slice none 0 0),.const (.slice none 0 0)] rfl rfl yx rfl c) λ_ _ _ hn=>⟨hn.1,(aA (t:=Tl) (x:=([]:(List Int))) .nil rfl rfl hn.2.1),(aA (t:=Tl) (x:=([]:(List Int))) .nil rfl rfl hn.2.2.1),(aA (t:=Tl) (x:=([]:(List Int))) .nil rfl rfl hn.2.2.2.1),(aA (t:=Tl) (x:=([]:(List Int))) .nil rfl rfl hn.2.2.2.2.1),trivial⟩) ⟨rfl,rfl,rfl,rfl,rfl,trivial⟩ λ_=>?_;refine mq ?_;refine xr ?_;refine xr ?_;refine xr ?_;refine aq ?_;refine aq ?_;refine aq (nt (ak (sr ?_)));refine mq ?_;refine jb (eL rfl) ?_;refine nt (cn h (λh=>?_) (λh=>?_))
  .refine sr (mq ?_);refine cq ?_;refine aq (nt (rx ?_));refine ce (eH (t:=(.slice Tl)) (x:=([]:(List (List Int)))) 2 rfl .nil rfl rfl) ?_;cases h;exact rb
  .cases h
 .
  rw [hr] at h c;replace h:=uH h;refine aI (Δ:=[]) (F:=_) (λ_ _ _=>ae rfl _) rfl rfl (bB (N:=[(.tmp 11,.rep au a0),(.const (.slice none 0 0),.eq (.slice none 0 0)),(.const (.slice none 0 0),.eq (.slice none 0 0)),(.const (.slice none 0 0),.eq (.slice none 0 0)),(.const (.slice none 0 0),.eq (.slice none 0 0))]) (aV [.tmp 11,.const (.slice none 0 0),.const (.slice none 0 0),.const (.slice none 0 0),.const (.slice none 0 0)] rfl rfl yx rfl c) λ_ _ _ hn=>⟨hn.1,(aA (t:=Tl) (x:=([]:(List Int))) .nil rfl rfl hn.2.1),(aA (t:=Tl) (x:=([]:(List Int))) .nil rfl rfl hn.2.2.1),(aA (t:=Tl) (x:=([]:(List Int))) .nil rfl rfl hn.2.2.2.1),(aA (t:=Tl) (x:=([]:(List Int))) .nil rfl rfl hn.2.2.2.2.1),trivial⟩) ⟨rfl,rfl,rfl,rfl,rfl,trivial⟩ λz4=>?_;refine mq ?_;refine xr ?_;refine xr ?_;refine xr ?_;refine aq ?_;refine aq ?_;refine aq (nt (ak (sr ?_)));refine mq ?_;refine jb (eL rfl) ?_;refine nt (cn h (λh=>?_) (λh=>?_))
  .refine sr (mq ?_);refine cq ?_;refine aq (nt (rx ?_));refine ce (eH (t:=(.slice Tl)) (x:=([]:(List (List Int)))) 2 rfl .nil rfl rfl) ?_;cases h;exact rb
  .refine sk (sr (cq (nt ?_)));refine aH (Z:=Value) (α:=(List (List Int))) (λz6 x5=>[(7,.eq z6)]) (λz6 x5=>[.sl z6 22 Tl x5,.inv z4.2 (bS k q3)]) h (λK h=>?_) (λz6 x5 h=>?_)
   .refine sr (mq ?_);obtain⟨r7,J,h⟩:=aa h;refine fr 1 ?_;refine fr 1 ?_;refine aI (Δ:=[_,_]) (F:=_) (λ_ _ _=>ae rfl _) rfl rfl (aV [.tmp 19,.const (.int .u8 (0))] rfl rfl O0 rfl (jP k q3 z4.1 z4.2 0 r7 J)) ⟨rfl,rfl,trivial⟩ λ_=>?_;refine ol zk ?_;refine eK rfl ?_;refine nt (aj (iL (SE.nil 22 Tl) ?_));refine aF (λz9 y8=>[(7,.eq z9),(20,.rep (.slice (.int .u8)) r7),(21,I (r7.length:Int)),(22,I y8.2)]) (λz9 y8=>[.sl z9 22 Tl y8.1,.inv z4.2 (bS k q3)]) (je k r7) k (.slice none 0 0) (([]:(List (List Int))),0) (λ_=>rfl) h (SE.fin [0,2] ⟨rfl,rfl,rfl,rfl,trivial⟩ rfl) (λn z9 y8 h=>?_);unfold je at h;refine sr (jb (bJ rfl) ?_);refine nt (ak (ci h (λh=>?_) (λh=>?_)))
    .refine sk (ak (aj (sr ?_)));obtain⟨D,l,h⟩:=aa h;refine jb (aX (t:=(.int .u8)) rfl zk oU l) ?_;refine ja (ap (t:=(.int .u8)) rfl oU rfl) ?_;refine aq (nt (ab ?_));iterate 2 refine mq ?_
     obtain⟨e,u,h⟩:=aa h;refine ja (av [.tmp 27] rfl rfl MM rfl (jJ k D e u)) ?_;refine ja (bb (t:=Tl) [(.tmp 28,_)] [e] rfl rfl oz (.cons rfl .rep .nil) rfl rfl) ?_;obtain⟨O,s,h⟩:=aa h;refine dV rfl rfl rfl (cI rfl rfl oz (am s)) ⟨rfl,rfl,trivial⟩ λE=>?_;refine aq (aE (aR (tn (ab ?_))));obtain⟨y,j,h⟩:=aa h;refine jb (bA rfl j) ?_;refine mq (nl ?_);exact jz (E,(y8.1++[e],y)) h [0,1]
    .refine xa ?_;exact jz (z9,y8.1) h [0,1]
   .refine sr (mq ?_);refine aq ?_;refine cq (nt (ay ?_));refine ce (iG [2,7,32] ⟨rfl,rfl,rfl,trivial⟩) ?_;cases h;exact rb
def dL(k:Nat)(a0:ah)(r5:(List (List Int)))(x9:Int):Nat->((List (List Int))×Int)->Option (List (List Int))
 |0,_=>none
 |n+1,c=>
  if c.2 < x9 then((aU r5 c.2).bind λj=>
  (cO (0≤a0.1/\a0.1≤5)).bind λ_=>
  (gu k (List.take (Int.toNat a0.1) j)).bind λe=>
  (cO (cE (length c.1+length [e]))).bind λ_=>
  (ck (c.2+1)).bind λh=>
  dL k a0 r5 x9 n (c.1++[e],h)) else(some c.1)
def fq(k:Nat)(a0:ah)(a1:(List Int)):Option ((List (List Int))×Int):=
 (jo k a0 a1 ([]:(List Int)) ([]:(List Int)) ([]:(List Int))).bind λr2=>
 fJ r2.1 (if¬(r2.2.2=0) then(some (([]:(List (List Int))),r2.2.2)) else(none)) (λq3=>if¬(r2.2.2=0) then(some (([]:(List (List Int))),r2.2.2)) else((kZ k q3 r2.2.1).bind λr5=>
 (((ck ((a0.2.2.2.2.1.length:Int)+1)).bind λx9=>
 dL k a0 r5 x9 k (([]:(List (List Int))),0)):Option ((List (List Int)))).bind λx7=>
 some (x7,0)))
theorem jd(k:Nat)(a0:ah)(a1:(List Int))(r:(List (List Int))×Int)(h:fq k a0 a1=some r):
 bX (dF Tryz.prog) 13 [.rep au a0,.rep Tl a1] [] (λ_:Unit=>(bI [.rep (.slice Tl) r.1,I r.2],[])):=by
 unfold fq at h
 replace h:=bg h
 refine bX.of 43 Tryz.func13 rfl Tryz.ntmps13 rfl λS w0=>?_
 refine sr ?_
 refine bx λb1=>?_
 refine cq ?_
 refine cq ?_
 refine nt ?_
 refine sr ?_
 refine lo iM ?_
 refine mq ?_
 obtain⟨r2,X,h⟩:=aa h
 have j:=lm k a0 a1 ([]:(List Int)) ([]:(List Int)) ([]:(List Int)) r2 X
 rcases hr:r2.1 with _ |q3
 .
  rw [hr] at h j;replace h:=uI h;refine aI (Δ:=[]) (F:=_) (λ_ _ _=>ae rfl _) rfl rfl (bB (N:=[(.tmp 13,.rep au a0),(.tmp 14,.rep Tl a1),(.const (.slice none 0 0),.eq (.slice none 0 0)),(.const (.slice none 0 0),.eq (.slice none 0 0)),(.const (.slice none 0 0),.eq (.slice none 0 0))]) (aV [.tmp 13,.tmp 14,.const (.slice none 0 0),.const (.slice none 0 0),.const (.slice none 0 0)] rfl rfl yx rfl j) λ_ _ _ hn=>⟨hn.1,hn.2.1,(aA (t:=Tl) (x:=([]:(List Int))) .nil rfl rfl hn.2.2.1),(aA (t:=Tl) (x:=([]:(List Int))) .nil rfl rfl hn.2.2.2.1),(aA (t:=Tl) (x:=([]:(List Int))) .nil rfl rfl hn.2.2.2.2.1),trivial⟩) ⟨rfl,rfl,rfl,rfl,rfl,trivial⟩ λ_=>?_;refine mq ?_;refine xr ?_;refine xr ?_;refine xr ?_;refine aq ?_;refine aq ?_;refine aq (nt (ak (sr ?_)));refine mq ?_;refine jb (eL rfl) ?_;refine nt (cn h (λh=>?_) (λh=>?_))
  .refine sr (mq ?_);refine cq ?_;refine aq (nt (rx ?_));refine ce (eH (t:=(.slice Tl)) (x:=([]:(List (List Int)))) 4 rfl .nil rfl rfl) ?_;cases h;exact rb
  .cases h
 .
  rw [hr] at h j;replace h:=uH h;refine aI (Δ:=[]) (F:=_) (λ_ _ _=>ae rfl _) rfl rfl (bB (N:=[(.tmp 13,.rep au a0),(.tmp 14,.rep Tl a1),(.const (.slice none 0 0),.eq (.slice none 0 0)),(.const (.slice none 0 0),.eq (.slice none 0 0)),(.const (.slice none 0 0),.eq (.slice none 0 0))]) (aV [.tmp 13,.tmp 14,.const (.slice none 0 0),.const (.slice none 0 0),.const (.slice none 0 0)] rfl rfl yx rfl j) λ_ _ _ hn=>⟨hn.1,hn.2.1,(aA (t:=Tl) (x:=([]:(List Int))) .nil rfl rfl hn.2.2.1),(aA (t:=Tl) (x:=([]:(List Int))) .nil rfl rfl hn.2.2.2.1),(aA (t:=Tl) (x:=([]:(List Int))) .nil rfl rfl hn.2.2.2.2.1),trivial⟩) ⟨rfl,rfl,rfl,rfl,rfl,trivial⟩ λz4=>?_;refine mq ?_;refine xr ?_;refine xr ?_;refine xr ?_;refine aq ?_;refine aq ?_;refine aq (nt (ak (sr ?_)));refine mq ?_;refine jb (eL rfl) ?_;refine nt (cn h (λh=>?_) (λh=>?_))
  .refine sr (mq ?_);refine cq ?_;refine aq (nt (rx ?_));refine ce (eH (t:=(.slice Tl)) (x:=([]:(List (List Int)))) 4 rfl .nil rfl rfl) ?_;cases h;exact rb
  .refine sk (sr (cq (nt (sr ?_))));iterate 2 refine mq ?_
   obtain⟨r5,U,h⟩:=aa h;refine fr 1 ?_;refine fr 1 ?_;refine aI (Δ:=[_,_]) (F:=_) (λ_ _ _=>ae rfl _) rfl rfl (aV [.tmp 22,.tmp 23] rfl rfl Df rfl (oe k q3 z4.1 z4.2 r2.2.1 r5 U)) ⟨rfl,rfl,trivial⟩ λ_=>?_;refine aY rfl rfl rfl (bz rfl D4 G0) trivial λb6=>?_;refine aS rfl rfl (aO rfl EH rfl rfl rfl) ⟨rfl,rfl,trivial⟩ ?_;refine eC (iV (t:=(.arr 7 Tr)) (x:=r5) [10] .rep ⟨rfl,trivial⟩) ?_;refine nt (aH (Z:=Value) (α:=(List (List Int))) (λz8 x7=>[(9,.eq z8)]) (λz8 x7=>[.sl z8 22 Tl x7,.inv z4.2 (bS k q3)]) h (λK h=>?_) (λz8 x7 h=>?_))
   .refine sr (fl eE ?_);refine fr 2 ?_;refine lo lD ?_;refine ol AA ?_;obtain⟨x9,Q,h⟩:=aa h;refine jb (bA rfl Q) ?_;refine eK rfl ?_;refine nt (aj (iL (SE.nil 22 Tl) ?_));refine aF (λe c=>[(2,Pt b1),(9,.eq e),(10,.at (.arr 7 Tr) r5),(28,I x9),(29,I c.2)]) (λe c=>[.obj b1 26 (.rep au a0),.sl e 22 Tl c.1,.inv z4.2 (bS k q3)]) (dL k a0 r5 x9) k (.slice none 0 0) (([]:(List (List Int))),0) (λ_=>rfl) h (SE.fin [1,0,3] ⟨rfl,rfl,rfl,rfl,rfl,trivial⟩ rfl) (λn e c h=>?_);unfold dL at h;refine sr (jb (bJ rfl) ?_);refine nt (ak (ci h (λh=>?_) (λh=>?_)))
    .refine sk (ak (aj (sr (mq ?_))));refine aq (nt ?_);refine cP ?_;refine dm ?_;refine dm ?_;obtain⟨M,y,h⟩:=aa h;refine db (bY (t:=Tr) rfl HH iJ y) ?_;refine da (aG rfl fH) ?_;refine ea 0 (ax rfl cG o9 rfl) ?_;obtain⟨gw,l,h⟩:=aa h;refine db (uo (t:=Ti) rfl Az cG (am l).1 (am l).2) ?_;obtain⟨s,E,h⟩:=aa h;refine da (BR (av [.tmp 37] rfl rfl Q0 rfl (qI k (List.take (Int.toNat a0.1) M) s E))) ?_;refine da (bb (t:=Tl) [(.tmp 38,_)] [s] rfl rfl oz (.cons rfl .rep .nil) rfl rfl) ?_;refine df ew ?_;obtain⟨Y,D,h⟩:=aa h;refine fr 1 ?_;refine dV rfl rfl rfl (cI rfl rfl oz (am D)) ⟨rfl,rfl,trivial⟩ λO=>?_;refine aq (aE (aR (tn (ab ?_))));obtain⟨J,u,h⟩:=aa h;refine jb (bA rfl u) ?_;refine mq (nl ?_);exact jz (O,(c.1++[s],J)) h [1,0,2]
    .refine xa ?_;exact jz (e,c.1) h [1,2]
   .refine sr (mq ?_);refine aq ?_;refine cq (nt (ay ?_));refine ce (iG [4,9,42] ⟨rfl,rfl,rfl,trivial⟩) ?_;cases h;exact rb
def lU(k:Nat)(a0:ah)(a1:(List Int))(a2:(List Int))(a3:(List Int)):Option ((Option ah)×(List Int)×Int):=
 (jo k a0 ([]:(List Int)) a1 a2 a3).bind λr2=>
 fJ r2.1 (if¬(r2.2.2=0) then(some (none,([]:(List Int)),r2.2.2)) else(none)) (λq3=>if¬(r2.2.2=0) then(some (none,([]:(List Int)),r2.2.2)) else((gd k q3 0).bind λr5=>
 if(r5.length:Int)=0 then(some (none,([]:(List Int)),9)) else(some (some q3,r5,0))))
theorem mj(k:Nat)(a0:ah)(a1:(List Int))(a2:(List Int))(a3:(List Int))(r:(Option ah)×(List Int)×Int)(h:lU k a0 a1 a2 a3=some r):
 bX (dF Tryz.prog) 42 [.rep au a0,.rep Tl a1,.rep Tl a2,.rep Tl a3] [] (λz:Nat×Nat=>(bI [Iu r.1 z.1,.rep (.slice (.int .u8)) r.2.1,I r.2.2],It r.1 λq=>pI q z.1 z.2 k)):=by
 unfold lU at h
 replace h:=bg h
 refine bX.of 34 Tryz.func42 rfl Tryz.ntmps42 rfl λS w0=>?_
 refine sr ?_
 refine bx λb1=>?_
 refine cq ?_
 refine cq ?_
 refine cq ?_
 refine nt ?_
 refine sr ?_
 refine lo iM ?_
 iterate 3 refine mq ?_
 obtain⟨r2,j,h⟩:=aa h
 have c:=lm k a0 ([]:(List Int)) a1 a2 a3 r2 j
 rcases hr:r2.1 with _ |q3
 .
  rw [hr] at h c;replace h:=uI h;refine aI (Δ:=[]) (F:=_) (λ_ _ _=>ae rfl _) rfl rfl (bB (N:=[(.tmp 16,.rep au a0),(.const (.slice none 0 0),.eq (.slice none 0 0)),(.tmp 17,.rep Tl a1),(.tmp 18,.rep Tl a2),(.tmp 19,.rep Tl a3)]) (aV [.tmp 16,.const (.slice none 0 0),.tmp 17,.tmp 18,.tmp 19] rfl rfl yx rfl c) λ_ _ _ hn=>⟨hn.1,(aA (t:=Tl) (x:=([]:(List Int))) .nil rfl rfl hn.2.1),hn.2.2.1,hn.2.2.2.1,hn.2.2.2.2.1,trivial⟩) ⟨rfl,rfl,rfl,rfl,rfl,trivial⟩ λ_=>?_;refine mq ?_;refine xr ?_;refine xr ?_;refine xr ?_;refine aq ?_;refine aq ?_;refine aq (nt (ak (sr ?_)));refine mq ?_;refine jb (eL rfl) ?_;refine nt (cn h (λh=>?_) (λh=>?_))
  .refine sr (mq ?_);refine cq ?_;refine cq ?_;refine aq (nt (rx ?_));refine ce (eH (t:=(.slice (.int .u8))) (x:=([]:(List Int))) 9 rfl .nil rfl rfl) ?_;cases h;exact aM (0,0) [.eq (.pointer none),_,_] 0 ⟨rfl,rfl,rfl,trivial⟩ rfl
  .cases h
 .
  rw [hr] at h c;replace h:=uH h;refine aI (Δ:=[]) (F:=_) (λ_ _ _=>ae rfl _) rfl rfl (bB (N:=[(.tmp 16,.rep au a0),(.const (.slice none 0 0),.eq (.slice none 0 0)),(.tmp 17,.rep Tl a1),(.tmp 18,.rep Tl a2),(.tmp 19,.rep Tl a3)]) (aV [.tmp 16,.const (.slice none 0 0),.tmp 17,.tmp 18,.tmp 19] rfl rfl yx rfl c) λ_ _ _ hn=>⟨hn.1,(aA (t:=Tl) (x:=([]:(List Int))) .nil rfl rfl hn.2.1),hn.2.2.1,hn.2.2.2.1,hn.2.2.2.2.1,trivial⟩) ⟨rfl,rfl,rfl,rfl,rfl,trivial⟩ λz4=>?_;refine mq ?_;refine xr ?_;refine xr ?_;refine xr ?_;refine aq ?_;refine aq ?_;refine aq (nt (ak (sr ?_)));refine mq ?_;refine jb (eL rfl) ?_;refine nt (cn h (λh=>?_) (λh=>?_))
  .refine sr (mq ?_);refine cq ?_;refine cq ?_;refine aq (nt (rx ?_));refine ce (eH (t:=(.slice (.int .u8))) (x:=([]:(List Int))) 9 rfl .nil rfl rfl) ?_;cases h;exact aM (0,0) [.eq (.pointer none),_,_] 0 ⟨rfl,rfl,rfl,trivial⟩ rfl
  .refine sk (sr (mq ?_));obtain⟨r5,e,h⟩:=aa h;refine fr 1 ?_;refine fr 1 ?_;refine aI (Δ:=[_,_]) (F:=_) (λ_ _ _=>ae rfl _) rfl rfl (aV [.tmp 27,.const (.int .u8 (0))] rfl rfl O0 rfl (jP k q3 z4.1 z4.2 0 r5 e)) ⟨rfl,rfl,trivial⟩ λ_=>?_;refine aq (nt (ak (sr ?_)));refine mq ?_;refine ol zk ?_;refine jb (jk rfl) ?_;refine nt (ci h (λh=>?_) (λh=>?_))
   .refine sr (cq ?_);refine cq ?_;refine cq (nt (rx ?_));refine ce (eH (t:=(.slice (.int .u8))) (x:=([]:(List Int))) 9 rfl .nil rfl rfl) ?_;cases h;exact aM (0,0) [.eq (.pointer none),_,_] 0 ⟨rfl,rfl,rfl,trivial⟩ rfl
   .refine sk (sr ?_);iterate 2 refine mq ?_
    refine aq ?_;refine aq ?_;refine cq (nt (ay ?_));cases h;exact aM (z4.1,z4.2) [.eq (.pointer (some ⟨z4.1,0,none⟩)),_,_] 2 ⟨rfl,rfl,rfl,trivial⟩ rfl
def fp(k:Nat)(a2:Int)(r1:(List (List Int)))(x5:Int):Nat->Int->Option (Except Int Unit)
 |0,_=>none
 |n+1,y6=>
  if y6 < x5 then((aU r1 y6).bind λx8=>
  (aU x8 a2).bind λx9=>
  if 0≤x9 then(some (.error y6)) else((ck (y6+1)).bind λc=>
  fp k a2 r1 x5 n c)) else(some (.ok ()))
def gU(k:Nat)(a0:ah)(a1:Int)(a2:Int):Option Int:=
 (kZ k a0 a1).bind λr1=>
 bE (α:=Unit) ((ck ((a0.2.2.2.2.1.length:Int)+1)).bind λx5=>
 fp k a2 r1 x5 k 0) (some) λ_=>
 some (-1:Int)
theorem kG(k:Nat)(a0:ah)(c z_a0:Nat)(a1:Int)(a2:Int)(r:Int)(h:gU k a0 a1 a2=some r):
 bX (dF Tryz.prog) 44 [Pt c,.eq (.int .u8 a1),I a2] [.obj c 129 (aN a0 z_a0),.inv z_a0 (bS k a0)] (λ_:Unit=>(bI [I r],[.obj c 129 (aN a0 z_a0),.inv z_a0 (bS k a0)])):=by
 unfold gU at h
 replace h:=bg h
 refine bX.of 30 Tryz.func44 rfl Tryz.ntmps44 rfl λS w0=>?_
 refine sr ?_
 refine cq ?_
 refine nt ?_
 refine sr ?_
 iterate 2 refine mq ?_
 obtain⟨r1,D,h⟩:=aa h
 have E:=oe k a0 c z_a0 a1 r1 D
 refine fr 1 ?_
 refine fr 1 ?_
 refine aI (Δ:=[_,_]) (F:=_) (λ_ _ _=>ae rfl _) rfl rfl (aV [.tmp 9,.tmp 10] rfl rfl Df rfl E) ⟨rfl,rfl,trivial⟩ λ_=>?_
 refine aY rfl rfl rfl (bz rfl D4 G0) trivial λb2=>?_
 refine aS rfl rfl (aO rfl EH rfl rfl rfl) ⟨rfl,rfl,trivial⟩ ?_
 refine eC (iV (t:=(.arr 7 Tr)) (x:=r1) [7] .rep ⟨rfl,trivial⟩) ?_
 refine nt ?_
 refine dw (Z:=Unit) (α:=Unit) (λz4 x3=>[]) (λz4 x3=>[.obj c 129 (aN a0 z_a0),.inv z_a0 (bS k a0)]) (λe=>e=r) h (λe h=>Option.some.inj h) (λK hR h=>?_) (λz4 x3 h=>?_)
 .
  refine sr (mq ?_);refine ja (cF rfl) ?_;refine fl gi ?_;refine fl eE ?_;refine lo lD ?_;refine ol AA ?_;obtain⟨x5,y,h⟩:=aa h;refine jb (bA rfl y) ?_;refine eK rfl ?_;refine nt (aj (aF (λz7 y6=>[(2,I a2),(7,.at (.arr 7 Tr) r1),(18,I x5),(19,I y6)]) (λz7 y6=>[.obj c 129 (aN a0 z_a0),.inv z_a0 (bS k a0)]) (fp k a2 r1 x5) k () 0 (λ_=>rfl) h (SE.fin [0,1] ⟨rfl,rfl,rfl,rfl,trivial⟩ rfl) (λn z7 y6 h=>?_)));unfold fp at h;refine sr (jb (bJ rfl) ?_);refine nt (ak (ci h (λh=>?_) (λh=>?_)))
  .refine sk (ak (aj (sr (mq ?_))));refine aq (nt (sr ?_));iterate 2 refine mq ?_
   obtain⟨x8,u,h⟩:=aa h;refine jb (bY (t:=Tr) rfl HH iJ u) ?_;obtain⟨x9,s,h⟩:=aa h;refine jb (bY (t:=Ti) rfl Az cG s) ?_;refine ja (ap (t:=Ti) rfl cG rfl) ?_;refine jb (jj rfl) ?_;refine nt (ci h (λh=>?_) (λh=>?_))
   .refine sr (mq ?_);refine aq (nt (ay (br (bD (bC ?_)))));obtain rfl:=hR _ h;exact aM () [_] 2 ⟨rfl,trivial⟩ rfl
   .refine be (aR (tn (ab ?_)));obtain⟨l,j,h⟩:=aa h;refine jb (bA rfl j) ?_;refine mq (nl ?_);exact jz ((),l) h [0,1]
  .refine xa ?_;exact jz ((),()) h [0,1]
 .
  refine sr (cq (nt (ay ?_)));cases h;exact aM () [_] 2 ⟨rfl,trivial⟩ rfl
def jU(k:Nat)(a1:Int)(r3:(Option ah)×(List Int)×Int)(q4:ah):Nat->((List Int)×Int)->Option (List Int)
 |0,_=>none
 |n+1,y8=>
  if y8.2 < (r3.2.1.length:Int) then((((aU r3.2.1 y8.2).bind λh=>
  (gU k q4 h a1).bind λc=>
  if 0≤c then((cO (cE (length y8.1+length [c]))).bind λ_=>
  some (y8.1++[c])) else(some y8.1)):Option ((List Int))).bind λj=>
  (ck (y8.2+1)).bind λe=>
  jU k a1 r3 q4 n (j,e)) else(some y8.1)
def rf(k:Nat)(a0:ah)(a1:Int):Option (eT×Int):=
 (lU k a0 [a1] ([]:(List Int)) ([]:(List Int))).bind λr3=>
 fJ r3.1 (if¬(r3.2.2=0) then(some ((0,0),r3.2.2)) else(none)) (λq4=>if¬(r3.2.2=0) then(some ((0,0),r3.2.2)) else(((jU k a1 r3 q4 k (([]:(List Int)),0)):Option ((List Int))).bind λx6=>
 if(x6.length:Int)=0 then(some ((0,0),11)) else((lb k x6).bind λe=>
 (ni k x6).bind λc=>
 some ((e,c),0))))
theorem wv(k:Nat)(a0:ah)(a1:Int)(r:eT×Int)(h:rf k a0 a1=some r):
 bX (dF Tryz.prog) 16 [.rep au a0,I a1] [] (λ_:Unit=>(bI [.rep bH r.1,I r.2],[])):=by
 unfold rf at h
 replace h:=bg h
 refine bX.of 51 Tryz.func16 rfl Tryz.ntmps16 rfl λS w0=>?_
 refine sr ?_
 refine bx λb1=>?_
 refine aY rfl rfl rfl (bz rfl zl Pl) trivial λb2=>?_
 refine cq ?_
 refine nt ?_
 refine sr ?_
 refine fr 1 ?_
 refine lo iM ?_
 refine mq ?_
 refine ja (bb (t:=Ti) [(.tmp 15,_)] [a1] rfl rfl dA (.cons rfl .int .nil) rfl rfl) ?_
 obtain⟨r3,Y,h⟩:=aa h
 have s:=mj k a0 [a1] ([]:(List Int)) ([]:(List Int)) r3 Y
 rcases hr:r3.1 with _ |q4
 .
  rw [hr] at h s;replace h:=uI h;refine aI (Δ:=[]) (F:=_) (λ_ _ _=>ae rfl _) rfl rfl (bB (N:=[(.tmp 14,.rep au a0),(.tmp 16,.rep Tl [a1]),(.const (.slice none 0 0),.eq (.slice none 0 0)),(.const (.slice none 0 0),.eq (.slice none 0 0))]) (aV [.tmp 14,.tmp 16,.const (.slice none 0 0),.const (.slice none 0 0)] rfl rfl Dc rfl s) λ_ _ _ hn=>⟨hn.1,hn.2.1,(aA (t:=Tl) (x:=([]:(List Int))) .nil rfl rfl hn.2.2.1),(aA (t:=Tl) (x:=([]:(List Int))) .nil rfl rfl hn.2.2.2.1),trivial⟩) ⟨rfl,rfl,rfl,rfl,trivial⟩ λ_=>?_;refine mq ?_;refine xr ?_;refine xr ?_;refine xr ?_;refine aq ?_;refine aq ?_;refine aq (nt (ak (sr ?_)));refine mq ?_;refine jb (eL rfl) ?_;refine nt (cn h (λh=>?_) (λh=>?_))
  .refine sr (bT rfl (dO [] rfl E4 zl yO (jO trivial) rfl) trivial ?_);refine mq ?_;refine fr 1 ?_;refine aS rfl rfl (aO rfl um trivial rfl rfl) ⟨rfl,rfl,trivial⟩ ?_;refine aq (nt (rx ?_));refine ce (jg (a:=.agg (.pair (I 0) (I 0))) (a':=.rep bH (0,0)) (rP (.agg (.pair .int .int)))) ?_;cases h;exact aM () [.rep bH (0,0),_] 0 ⟨⟨_,_,_,_,_,rfl,(.head _),um,(uc),rfl⟩,rfl,trivial⟩ rfl
  .cases h
 .
  rw [hr] at h s;replace h:=uH h;refine aI (Δ:=[]) (F:=_) (λ_ _ _=>ae rfl _) rfl rfl (bB (N:=[(.tmp 14,.rep au a0),(.tmp 16,.rep Tl [a1]),(.const (.slice none 0 0),.eq (.slice none 0 0)),(.const (.slice none 0 0),.eq (.slice none 0 0))]) (aV [.tmp 14,.tmp 16,.const (.slice none 0 0),.const (.slice none 0 0)] rfl rfl Dc rfl s) λ_ _ _ hn=>⟨hn.1,hn.2.1,(aA (t:=Tl) (x:=([]:(List Int))) .nil rfl rfl hn.2.2.1),(aA (t:=Tl) (x:=([]:(List Int))) .nil rfl rfl hn.2.2.2.1),trivial⟩) ⟨rfl,rfl,rfl,rfl,trivial⟩ λz5=>?_;refine mq ?_;refine xr ?_;refine xr ?_;refine xr ?_;refine aq ?_;refine aq ?_;refine aq (nt (ak (sr ?_)));refine mq ?_;refine jb (eL rfl) ?_;refine nt (cn h (λh=>?_) (λh=>?_))
  .refine sr (bT rfl (dO [] rfl E4 zl yO (jO trivial) rfl) trivial ?_);refine mq ?_;refine fr 3 ?_;refine aS rfl rfl (aO rfl um trivial rfl rfl) ⟨rfl,rfl,trivial⟩ ?_;refine aq (nt (rx ?_));refine ce (jg (a:=.agg (.pair (I 0) (I 0))) (a':=.rep bH (0,0)) (rP (.agg (.pair .int .int)))) ?_;cases h;exact aM () [.rep bH (0,0),_] 0 ⟨⟨_,_,_,_,_,rfl,(.head _),um,(uc),rfl⟩,rfl,trivial⟩ rfl
  .refine sk (sr (cq (nt ?_)));refine aH (Z:=Value) (α:=(List Int)) (λz7 x6=>[(4,Pt b2),(9,.eq z7)]) (λz7 x6=>[.obj b2 39 (.agg (.pair (I 0) (I 0))),.sl z7 3 Ti x6,.inv z5.2 (bS k q4)]) h (λK h=>?_) (λz7 x6 h=>?_)
   .refine sr (mq ?_);refine ol zk ?_;refine eK rfl ?_;refine nt (aj (iL (SE.nil 3 Ti) ?_));refine aF (λz9 y8=>[(1,I a1),(4,Pt b2),(6,.eq (.pointer (some ⟨z5.1,0,none⟩))),(9,.eq z9),(25,.rep (.slice (.int .u8)) r3.2.1),(26,I (r3.2.1.length:Int)),(27,I y8.2)]) (λz9 y8=>[.obj b2 39 (.agg (.pair (I 0) (I 0))),.obj z5.1 129 (aN q4 z5.2),.sl z9 3 Ti y8.1,.inv z5.2 (bS k q4)]) (jU k a1 r3 q4) k (.slice none 0 0) (([]:(List Int)),0) (λ_=>rfl) h (SE.fin [4,1,0,2] ⟨rfl,rfl,rfl,rfl,rfl,rfl,rfl,trivial⟩ rfl) (λn z9 y8 h=>?_);unfold jU at h;refine sr (jb (bJ rfl) ?_);refine nt (ak (ci h (λh=>?_) (λh=>?_)))
    .refine sk (aH (Z:=Value) (α:=(List Int)) (λc e=>[(1,I a1),(4,Pt b2),(6,.eq (.pointer (some ⟨z5.1,0,none⟩))),(9,.eq c),(25,.rep (.slice (.int .u8)) r3.2.1),(26,I (r3.2.1.length:Int)),(27,I y8.2)]) (λc e=>[.obj b2 39 (.agg (.pair (I 0) (I 0))),.obj z5.1 129 (aN q4 z5.2),.sl c 3 Ti e,.inv z5.2 (bS k q4)]) h (λK h=>?_) (λc e h=>?_))
     .refine aj (sr ?_);obtain⟨U,D,h⟩:=aa h;refine jb (aX (t:=(.int .u8)) rfl zk oU D) ?_;refine ja (ap (t:=(.int .u8)) rfl oU rfl) ?_;refine aq (nt (sr ?_));iterate 3 refine mq ?_
      obtain⟨u,O,h⟩:=aa h;refine fr 3 ?_;refine fr 2 ?_;refine aI (Δ:=[_,_]) (F:=_) (λ_ _ _=>ae rfl _) rfl rfl (aV [.tmp 31,.tmp 32,.tmp 33] rfl rfl OZ rfl (kG k q4 z5.1 z5.2 U a1 u O)) ⟨rfl,rfl,rfl,trivial⟩ λ_=>?_;refine aq (nt (sr ?_));refine mq ?_;refine jb (jj rfl) ?_;refine nt (ci h (λh=>?_) (λh=>?_))
      .refine ab ?_;iterate 2 refine mq ?_
       refine ja (bb (t:=Ti) [(.tmp 38,_)] [u] rfl rfl dA (.cons rfl .int .nil) rfl rfl) ?_;obtain⟨gw,E,h⟩:=aa h;refine fr 3 ?_;refine dV rfl rfl rfl (cI rfl rfl dA (am E)) ⟨rfl,rfl,trivial⟩ λX=>?_;refine aq (aE (bn ?_));exact jz (X,y8.1++[u]) h [3,1,0,2]
      .refine be (bn ?_);exact jz (z9,y8.1) h [2,0,3,1]
     .refine ab ?_;obtain⟨Q,y,h⟩:=aa h;refine jb (bA rfl y) ?_;refine mq (nl ?_);exact jz (c,(e,Q)) h [0,1,2,3]
    .refine xa ?_;exact jz (z9,y8.1) h [0,2,3]
   .refine ak (sr (mq ?_));refine fr 1 ?_;refine ka (lR rfl rfl iE) ?_;refine jb (jk rfl) ?_;refine nt (ci h (λh=>?_) (λh=>?_))
    .refine sr (bT rfl (dO [] rfl E4 zl yO (jO trivial) rfl) trivial ?_);refine fr 1 ?_;refine aS rfl rfl (aO rfl um trivial rfl rfl) ⟨rfl,rfl,trivial⟩ ?_;refine cq (nt (rx ?_));refine ce (jg (a:=.agg (.pair (I 0) (I 0))) (a':=.rep bH (0,0)) (rP (.agg (.pair .int .int)))) ?_;cases h;exact aM () [.rep bH (0,0),_] 0 ⟨⟨_,_,_,_,_,rfl,(.head _),um,(uc),rfl⟩,rfl,trivial⟩ rfl
    .refine sk (sr (mq ?_));obtain⟨l,M,h⟩:=aa h;refine ka (kR (N:=[(.tmp 46,.eq z7)]) (av [.tmp 46] rfl rfl OY rfl (nh k x6 l M)) (λ_ _ _ hv hn=>⟨(lend hn.1 hv),trivial⟩) (λ_=>⟨rfl,nH⟩)) ?_;refine mq ?_;obtain⟨j,J,h⟩:=aa h;refine ka (kR (N:=[(.tmp 48,.eq z7)]) (av [.tmp 48] rfl rfl QZ rfl (sY k x6 j J)) (λ_ _ _ hv hn=>⟨(lend hn.1 hv),trivial⟩) (λ_=>⟨rfl,nH⟩)) ?_;refine jb (dO [(0,.tmp 47,_),(1,.tmp 49,_)] rfl E4 zl yO (jO ⟨rfl,rfl,trivial⟩) rfl) ?_;refine fr 1 ?_;refine aS rfl rfl (aO rfl um trivial rfl rfl) ⟨rfl,rfl,trivial⟩ ?_;refine cq (nt (ay ?_));refine ce (jg (a:=.agg (.pair (I l) (I j))) (a':=.rep bH (l,j)) (rP (.agg (.pair .int .int)))) ?_;cases h;exact aM () [.rep bH (l,j),_] 0 ⟨⟨_,_,_,_,_,rfl,(.head _),um,(uc),rfl⟩,rfl,trivial⟩ rfl
def i7(k:Nat)(a1:Int)(a2:Int)(y4:(List (List (List Int)))×Int)(h:(List Int)):Nat->((List Int)×Int)->Option (List Int)
 |0,_=>none
 |n+1,c=>
  if c.2 < (h.length:Int) then((((aU h c.2).bind λe=>
  ((if y4.2 < a1 then(some true) else((ee k a2 e).bind λs=>
  some (!s))):Option (Bool)).bind λl=>
  if l=true then((cO (cE (length c.1+length [e]))).bind λ_=>
  some (c.1++[e])) else(some c.1)):Option ((List Int))).bind λr=>
  (ck (c.2+1)).bind λj=>
  i7 k a1 a2 y4 h n (r,j)) else(some c.1)
def i8(k:Nat)(a1:Int)(a2:Int)(y4:(List (List (List Int)))×Int)(x8:(List (List Int))):Nat->((List (List Int))×Int)->Option (List (List Int))
 |0,_=>none
 |n+1,c=>
  if c.2 < (x8.length:Int) then((((aU x8 c.2).bind λj=>
  ((i7 k a1 a2 y4 j k (([]:(List Int)),0)):Option ((List Int))).bind λe=>
  (cO (cE (length c.1+length [e]))).bind λ_=>
  some (c.1++[e])):Option ((List (List Int)))).bind λl=>
  (ck (c.2+1)).bind λh=>
  i8 k a1 a2 y4 x8 n (l,h)) else(some c.1)
def i9(k:Nat)(a0:ah)(a1:Int)(a2:Int):Nat->((List (List (List Int)))×Int)->Option (List (List (List Int)))
 |0,_=>none
 |n+1,y4=>
  if y4.2 < (a0.2.2.2.2.1.length:Int) then((((aU a0.2.2.2.2.1 y4.2).bind λx8=>
  ((i8 k a1 a2 y4 x8 k (([]:(List (List Int))),0)):Option ((List (List Int)))).bind λx9=>
  (cO (cE (length y4.1+length [x9]))).bind λ_=>
  some (y4.1++[x9])):Option ((List (List (List Int))))).bind λx6=>
  (ck (y4.2+1)).bind λc=>
  i9 k a0 a1 a2 n (x6,c)) else(some y4.1)
def ml(k:Nat)(a0:ah)(a1:Int)(a2:Int):Option (Option ah):=
 ((i9 k a0 a1 a2 k (([]:(List (List (List Int)))),0)):Option ((List (List (List Int))))).bind λx2=>
 (ir k (a0.1,a0.2.1,a0.2.2.1,a0.2.2.2.1,x2,a0.2.2.2.2.2)).bind λc=>
 fJ c (some none) (λe=>some (some e))
theorem uy(k:Nat)(a0:ah)(a1:Int)(a2:Int)(r:(Option ah))(h:ml k a0 a1 a2=some r):
 dx Tryz.prog 53 [.rep au a0,I a1,.eq (.int .u8 a2)] [] (λz:Nat×Nat=>(bI [Iu r z.1],It r λq=>pI q z.1 z.2 k)):=by
 unfold ml at h
 replace h:=bg h
 refine dx.of 69 Tryz.func53 rfl Tryz.ntmps53 rfl λS w0=>?_
 refine sr ?_
 refine bx λb1=>?_
 refine cq ?_
 refine nt ?_
 refine sr ?_
 refine fl eE ?_
 refine lo lD ?_
 refine mq ?_
 refine ja (qP [.tmp 19] [] [(.int .u8 a2)] [] rfl rfl rfl) ?_
 refine aq ?_
 refine aq ?_
 refine nt ?_
 refine sr ?_
 refine fl eE ?_
 refine aS rfl rfl (aO rfl lD rfl rfl rfl) ⟨rfl,rfl,trivial⟩ ?_
 refine nt ?_
 refine aH (Z:=Value) (α:=(List (List (List Int)))) (λz3 x2=>[(3,Pt b1)]) (λz3 x2=>[.obj b1 26 (.agg (.pair (I a0.1) (.pair (I a0.2.1) (.pair (I a0.2.2.1) (.pair (I a0.2.2.2.1) (.pair (.eq z3) (Rs bN a0.2.2.2.2.2))))))),.sl z3 30 (.slice Tl) x2]) h (λK h=>?_) (λz3 x2 h=>?_)
 .
  refine sr (mq ?_);refine ol AA ?_;refine eK rfl ?_;refine nt (aj (iL (SE.nil 30 (.slice Tl)) ?_));refine dC 1 rfl ?_;refine iL (jg (a:=.agg (.pair (.rep Ti a0.1) (.pair (.rep Ti a0.2.1) (.pair (.rep Ti a0.2.2.1) (.pair (.rep Ti a0.2.2.2.1) (.pair (.eq (.slice none 0 0)) (Rs bN a0.2.2.2.2.2))))))) (a':=.agg (.pair (I a0.1) (.pair (I a0.2.1) (.pair (I a0.2.2.1) (.pair (I a0.2.2.2.1) (.pair (.eq (.slice none 0 0)) (Rs bN a0.2.2.2.2.2))))))) (AE.agg (AE.pair AE.int (AE.pair AE.int (AE.pair AE.int (AE.pair AE.int AE.rfl)))))) ?_;refine aF (λz5 y4=>[(1,I a1),(3,Pt b1),(8,.eq (.func (.func 75) #[(.int .u8 a2)] #[])),(22,.rep (.slice (.slice Tl)) a0.2.2.2.2.1),(23,I (a0.2.2.2.2.1.length:Int)),(24,I y4.2)]) (λz5 y4=>[.obj b1 26 (.agg (.pair (I a0.1) (.pair (I a0.2.1) (.pair (I a0.2.2.1) (.pair (I a0.2.2.2.1) (.pair (.eq z5) (Rs bN a0.2.2.2.2.2))))))),.sl z5 30 (.slice Tl) y4.1]) (i9 k a0 a1 a2) k (.slice none 0 0) (([]:(List (List (List Int)))),0) (λ_=>rfl) h (SE.fin [0,1] ⟨rfl,rfl,rfl,rfl,rfl,rfl,trivial⟩ rfl) (λn z5 y4 h=>?_);unfold i9 at h;refine sr (jb (bJ rfl) ?_);refine nt (ak (ci h (λh=>?_) (λh=>?_)))
  .refine sk (aH (Z:=Value) (α:=(List (List (List Int)))) (λz7 x6=>[(1,I a1),(3,Pt b1),(8,.eq (.func (.func 75) #[(.int .u8 a2)] #[])),(22,.rep (.slice (.slice Tl)) a0.2.2.2.2.1),(23,I (a0.2.2.2.2.1.length:Int)),(24,I y4.2)]) (λz7 x6=>[.obj b1 26 (.agg (.pair (I a0.1) (.pair (I a0.2.1) (.pair (I a0.2.2.1) (.pair (I a0.2.2.2.1) (.pair (.eq z7) (Rs bN a0.2.2.2.2.2))))))),.sl z7 30 (.slice Tl) x6]) h (λK h=>?_) (λz7 x6 h=>?_))
   .refine aj (sr (mq ?_));obtain⟨x8,SN,h⟩:=aa h;refine jb (aX (t:=(.slice Tl)) rfl AA xH SN) ?_;refine ja (ap (t:=(.slice Tl)) rfl xH rfl) ?_;refine aq ?_;refine aq (nt (sr ?_));refine cq (nt ?_);refine aH (Z:=Value) (α:=(List (List Int))) (λQ x9=>[(1,I a1),(3,Pt b1),(8,.eq (.func (.func 75) #[(.int .u8 a2)] #[])),(11,.eq Q),(22,.rep (.slice (.slice Tl)) a0.2.2.2.2.1),(23,I (a0.2.2.2.2.1.length:Int)),(24,I y4.2)]) (λQ x9=>[.obj b1 26 (.agg (.pair (I a0.1) (.pair (I a0.2.1) (.pair (I a0.2.2.1) (.pair (I a0.2.2.2.1) (.pair (.eq z5) (Rs bN a0.2.2.2.2.2))))))),.sl z5 30 (.slice Tl) y4.1,.sl Q 22 Tl x9]) h (λK h=>?_) (λQ x9 h=>?_)
    .refine sr (mq ?_);refine ol rW ?_;refine eK rfl ?_;refine nt (aj (iL (SE.nil 22 Tl) ?_));refine aF (λe c=>[(1,I a1),(3,Pt b1),(8,.eq (.func (.func 75) #[(.int .u8 a2)] #[])),(9,I y4.2),(11,.eq e),(22,.rep (.slice (.slice Tl)) a0.2.2.2.2.1),(23,I (a0.2.2.2.2.1.length:Int)),(24,I y4.2),(29,.rep (.slice Tl) x8),(30,I (x8.length:Int)),(31,I c.2)]) (λe c=>[.obj b1 26 (.agg (.pair (I a0.1) (.pair (I a0.2.1) (.pair (I a0.2.2.1) (.pair (I a0.2.2.2.1) (.pair (.eq z5) (Rs bN a0.2.2.2.2.2))))))),.sl z5 30 (.slice Tl) y4.1,.sl e 22 Tl c.1]) (i8 k a1 a2 y4 x8) k (.slice none 0 0) (([]:(List (List Int))),0) (λ_=>rfl) h (SE.fin [1,2,0] ⟨rfl,rfl,rfl,rfl,rfl,rfl,rfl,rfl,rfl,rfl,rfl,trivial⟩ rfl) (λn e c h=>?_);unfold i8 at h;refine sr (jb (bJ rfl) ?_);refine nt (ak (ci h (λh=>?_) (λh=>?_)))
     .refine sk (aH (Z:=Value) (α:=(List (List Int))) (λE X=>[(1,I a1),(3,Pt b1),(8,.eq (.func (.func 75) #[(.int .u8 a2)] #[])),(9,I y4.2),(11,.eq E),(22,.rep (.slice (.slice Tl)) a0.2.2.2.2.1),(23,I (a0.2.2.2.2.1.length:Int)),(24,I y4.2),(29,.rep (.slice Tl) x8),(30,I (x8.length:Int)),(31,I c.2)]) (λE X=>[.obj b1 26 (.agg (.pair (I a0.1) (.pair (I a0.2.1) (.pair (I a0.2.2.1) (.pair (I a0.2.2.2.1) (.pair (.eq z5) (Rs bN a0.2.2.2.2.2))))))),.sl z5 30 (.slice Tl) y4.1,.sl E 22 Tl X]) h (λK h=>?_) (λE X h=>?_))
      .refine aj (sr ?_);obtain⟨u,Sr,h⟩:=aa h;refine jb (aX (t:=Tl) rfl rW ii Sr) ?_;refine ja (ap (t:=Tl) rfl ii rfl) ?_;refine aq (nt (sr ?_));refine cq (nt ?_);refine aH (Z:=Value) (α:=(List Int)) (λO M=>[(1,I a1),(3,Pt b1),(8,.eq (.func (.func 75) #[(.int .u8 a2)] #[])),(9,I y4.2),(11,.eq e),(14,.eq O),(22,.rep (.slice (.slice Tl)) a0.2.2.2.2.1),(23,I (a0.2.2.2.2.1.length:Int)),(24,I y4.2),(29,.rep (.slice Tl) x8),(30,I (x8.length:Int)),(31,I c.2)]) (λO M=>[.obj b1 26 (.agg (.pair (I a0.1) (.pair (I a0.2.1) (.pair (I a0.2.2.1) (.pair (I a0.2.2.2.1) (.pair (.eq z5) (Rs bN a0.2.2.2.2.2))))))),.sl z5 30 (.slice Tl) y4.1,.sl e 22 Tl c.1,.sl O 3 Ti M]) h (λK h=>?_) (λO M h=>?_)
       .refine sr (mq ?_);refine ol iE ?_;refine eK rfl ?_;refine nt (aj (iL (SE.nil 3 Ti) ?_));refine aF (λl j=>[(1,I a1),(3,Pt b1),(8,.eq (.func (.func 75) #[(.int .u8 a2)] #[])),(9,I y4.2),(11,.eq e),(14,.eq l),(22,.rep (.slice (.slice Tl)) a0.2.2.2.2.1),(23,I (a0.2.2.2.2.1.length:Int)),(24,I y4.2),(29,.rep (.slice Tl) x8),(30,I (x8.length:Int)),(31,I c.2),(35,.rep Tl u),(36,I (u.length:Int)),(37,I j.2)]) (λl j=>[.obj b1 26 (.agg (.pair (I a0.1) (.pair (I a0.2.1) (.pair (I a0.2.2.1) (.pair (I a0.2.2.2.1) (.pair (.eq z5) (Rs bN a0.2.2.2.2.2))))))),.sl z5 30 (.slice Tl) y4.1,.sl e 22 Tl c.1,.sl l 3 Ti j.1]) (i7 k a1 a2 y4 u) k (.slice none 0 0) (([]:(List Int)),0) (λ_=>rfl) h (SE.fin [1,2,3,0] ⟨rfl,rfl,rfl,rfl,rfl,rfl,rfl,rfl,rfl,rfl,rfl,rfl,rfl,rfl,rfl,trivial⟩ rfl) (λn l j h=>?_);unfold i7 at h;refine sr (jb (bJ rfl) ?_);refine nt (ak (ci h (λh=>?_) (λh=>?_)))
        .refine sk (aH (Z:=Value) (α:=(List Int)) (λD U=>[(1,I a1),(3,Pt b1),(8,.eq (.func (.func 75) #[(.int .u8 a2)] #[])),(9,I y4.2),(11,.eq e),(14,.eq D),(22,.rep (.slice (.slice Tl)) a0.2.2.2.2.1),(23,I (a0.2.2.2.2.1.length:Int)),(24,I y4.2),(29,.rep (.slice Tl) x8),(30,I (x8.length:Int)),(31,I c.2),(35,.rep Tl u),(36,I (u.length:Int)),(37,I j.2)]) (λD U=>[.obj b1 26 (.agg (.pair (I a0.1) (.pair (I a0.2.1) (.pair (I a0.2.2.1) (.pair (I a0.2.2.2.1) (.pair (.eq z5) (Rs bN a0.2.2.2.2.2))))))),.sl z5 30 (.slice Tl) y4.1,.sl e 22 Tl c.1,.sl D 3 Ti U]) h (λK h=>?_) (λD U h=>?_))
         .refine aj (sr ?_);obtain⟨J,Sl,h⟩:=aa h;refine jb (aX (t:=Ti) rfl iE cG Sl) ?_;refine ja (ap (t:=Ti) rfl cG rfl) ?_;refine aq (nt ?_);refine aH (Z:=Unit) (α:=Bool) (λmc gw=>[(1,I a1),(3,Pt b1),(8,.eq (.func (.func 75) #[(.int .u8 a2)] #[])),(9,I y4.2),(11,.eq e),(14,.eq l),(16,I J),(22,.rep (.slice (.slice Tl)) a0.2.2.2.2.1),(23,I (a0.2.2.2.2.1.length:Int)),(24,I y4.2),(29,.rep (.slice Tl) x8),(30,I (x8.length:Int)),(31,I c.2),(35,.rep Tl u),(36,I (u.length:Int)),(37,I j.2),(49,.eq (.bool gw))]) (λmc gw=>[.obj b1 26 (.agg (.pair (I a0.1) (.pair (I a0.2.1) (.pair (I a0.2.2.1) (.pair (I a0.2.2.2.1) (.pair (.eq z5) (Rs bN a0.2.2.2.2.2))))))),.sl z5 30 (.slice Tl) y4.1,.sl e 22 Tl c.1,.sl l 3 Ti j.1]) h (λK h=>?_) (λmc gw h=>?_)
          .refine ab ?_;iterate 2 refine mq ?_
           refine jb (bJ rfl) ?_;refine mq ?_;refine cD (s:=44) rfl (λhb=>?_) (λhb=>?_)
           .replace h:=eU (uF hb) h;iterate 4 refine gn ?_
            refine pt (nl ?_);exact jz ((),true) h [0,1,2,3]
           .replace h:=c6 (uG hb) h;refine gm ?_;refine gm ?_;obtain⟨qt,SD,h⟩:=aa h;refine gb (sF (fs:=[(.int .u8 a2)]) (cs:=[]) (ags:=[I J]) [.tmp 46] rfl rfl GI rfl (fW k a2 J qt SD)) ?_;refine ga (hH rfl) ?_;refine pf (nl ?_);exact jz ((), !qt) h [0,1,2,3]
          .refine cv h (λh=>?_) (λh=>?_)
           .refine ab ?_;iterate 2 refine mq ?_
            refine ja (bb (t:=Ti) [(.tmp 51,_)] [J] rfl rfl dA (.cons rfl .int .nil) rfl rfl) ?_;obtain⟨SQ,SB,h⟩:=aa h;refine fr 3 ?_;refine dV rfl rfl rfl (cI rfl rfl dA (am SB)) ⟨rfl,rfl,trivial⟩ λSL=>?_;refine aq (aE (bn ?_));exact jz (SL,j.1++[J]) h [1,2,3,0]
           .refine be (bn ?_);exact jz (l,j.1) h [0,1,2,3]
         .refine ab ?_;obtain⟨SI,Sj,h⟩:=aa h;refine jb (bA rfl Sj) ?_;refine mq (nl ?_);exact jz (D,(U,SI)) h [0,1,2,3]
        .refine xa ?_;exact jz (l,j.1) h [0,1,2,3]
       .refine ab ?_;iterate 2 refine mq ?_
        refine fr 3 ?_;refine eC (iG [14,56] ⟨rfl,rfl,trivial⟩) ?_;refine ja (bb (t:=Tl) [(.tmp 56,_)] [M] rfl rfl oz (.cons rfl .rep .nil) rfl rfl) ?_;obtain⟨SO,SA,h⟩:=aa h;refine fr 2 ?_;refine dV rfl rfl rfl (cI rfl rfl oz (am SA)) ⟨rfl,rfl,trivial⟩ λSK=>?_;refine aq (aE (bn ?_));exact jz (SK,c.1++[M]) h [1,2,0]
      .refine ab ?_;obtain⟨SH,Si,h⟩:=aa h;refine jb (bA rfl Si) ?_;refine mq (nl ?_);exact jz (E,(X,SH)) h [0,1,2]
     .refine xa ?_;exact jz (e,c.1) h [0,1,2]
    .refine ab (fl eE ?_);refine lo lD ?_;refine mq ?_;refine fr 2 ?_;refine eC (iG [11,62] ⟨rfl,rfl,trivial⟩) ?_;refine ja (bb (t:=(.slice Tl)) [(.tmp 62,_)] [x9] rfl rfl zB (.cons rfl .rep .nil) rfl rfl) ?_;obtain⟨u32,Sz,h⟩:=aa h;refine fr 1 ?_;refine dV rfl rfl rfl (cI rfl rfl zB (am Sz)) ⟨rfl,rfl,trivial⟩ λSJ=>?_;refine fl eE ?_;refine t4 λo34=>?_;refine fr 1 ?_;refine aS rfl rfl (aO rfl lD o34 rfl rfl) ⟨rfl,rfl,trivial⟩ ?_;refine aE (bn ?_);exact jz (SJ,y4.1++[x9]) h [0,1]
   .refine ab ?_;obtain⟨SG,zz,h⟩:=aa h;refine jb (bA rfl zz) ?_;refine mq (nl ?_);exact jz (z7,(x6,SG)) h [0,1]
  .refine xa ?_;exact jz (z5,y4.1) h [0,1]
 .
  refine sr (fr 1 ?_);refine eC (pG (off:=4) [] trivial rfl rfl) ?_;refine lo iM ?_;obtain⟨mw,SC,h⟩:=aa h;have y:=mN k (a0.1,a0.2.1,a0.2.2.1,a0.2.2.2.1,x2,a0.2.2.2.2.2) mw SC;rcases hr:mw with _ |SR
  .rw [hr] at h y;replace h:=uI h;refine aI (Δ:=[]) (F:=_) (λ_ _ _=>ae rfl _) rfl rfl (bB (N:=[(.tmp 67,.agg (.pair (I a0.1) (.pair (I a0.2.1) (.pair (I a0.2.2.1) (.pair (I a0.2.2.2.1) (.pair (.rep (.slice (.slice Tl)) x2) (Rs bN a0.2.2.2.2.2)))))))]) (av [.tmp 67] rfl rfl Jl rfl y) λ_ _ _ hn=>⟨(aA (t:=au) (x:=(a0.1,a0.2.1,a0.2.2.1,a0.2.2.2.1,x2,a0.2.2.2.2.2)) (.agg (.pair .int (.pair .int (.pair .int (.pair .int (.pair .rep .rep)))))) trivial rfl hn.1),trivial⟩) ⟨rfl,trivial⟩ λ_=>?_;refine aq (nt (ay ?_));cases h;exact aM (0,0) [.eq (.pointer none)] 0 ⟨rfl,trivial⟩ rfl
  .rw [hr] at h y;replace h:=uH h;refine aI (Δ:=[]) (F:=_) (λ_ _ _=>ae rfl _) rfl rfl (bB (N:=[(.tmp 67,.agg (.pair (I a0.1) (.pair (I a0.2.1) (.pair (I a0.2.2.1) (.pair (I a0.2.2.2.1) (.pair (.rep (.slice (.slice Tl)) x2) (Rs bN a0.2.2.2.2.2)))))))]) (av [.tmp 67] rfl rfl Jl rfl y) λ_ _ _ hn=>⟨(aA (t:=au) (x:=(a0.1,a0.2.1,a0.2.2.1,a0.2.2.2.1,x2,a0.2.2.2.2.2)) (.agg (.pair .int (.pair .int (.pair .int (.pair .int (.pair .rep .rep)))))) trivial rfl hn.1),trivial⟩) ⟨rfl,trivial⟩ λY=>?_;refine aq (nt (ay ?_));cases h;exact aM (Y.1,Y.2) [.eq (.pointer (some ⟨Y.1,0,none⟩))] 2 ⟨rfl,trivial⟩ rfl
def eh(k:Nat)(a0:ah)(r1:(List (List Int)))(y5:Int):Nat->Int->Option (Except Bool Unit)
 |0,_=>none
 |n+1,c=>
  if c < a0.1 then((((aU r1 y5).bind λs=>
  (aU s c).bind λr=>
  if r < 0 then((ck (y5+1)).bind λl=>
  (aU r1 l).bind λj=>
  (aU j c).bind λh=>
  some (decide (h=0))) else(some false)):Option (Bool)).bind λu=>
  if u=true then(some (.error true)) else((ck (c+1)).bind λe=>
  eh k a0 r1 y5 n e)) else(some (.ok ()))
def ek(k:Nat)(a0:ah)(r1:(List (List Int))):Nat->Int->Option (Except Bool Unit)
 |0,_=>none
 |n+1,y5=>
  if y5 < (a0.2.2.2.2.1.length:Int) then(bE (α:=Unit) ((ck (y5+1)).bind λx9=>
  (aU r1 x9).bind λh=>
  (aU r1 y5).bind λc=>
  (cO (vW h/\vW c)).bind λ_=>
  if h=c then(some (.ok ())) else(eh k a0 r1 y5 k 0)) (λe=>some (.error e)) λ_=>
  (ck (y5+1)).bind λj=>
  ek k a0 r1 n j) else(some (.ok ()))
def iu(k:Nat)(a0:ah)(a1:Int)(a2:Int):Option Bool:=
 (kZ k a0 a1).bind λr1=>
 bE (α:=Unit) (ek k a0 r1 k a2) (some) λ_=>
 some false
theorem nz(k:Nat)(a0:ah)(c z_a0:Nat)(a1:Int)(a2:Int)(r:Bool)(h:iu k a0 a1 a2=some r):
 bX (dF Tryz.prog) 55 [Pt c,.eq (.int .u8 a1),I a2] [.obj c 129 (aN a0 z_a0),.inv z_a0 (bS k a0)] (λ_:Unit=>(bI [.eq (.bool r)],[.obj c 129 (aN a0 z_a0),.inv z_a0 (bS k a0)])):=by
 unfold iu at h
 replace h:=bg h
 refine bX.of 56 Tryz.func55 rfl Tryz.ntmps55 rfl λS w0=>?_
 refine sr ?_
 refine cq ?_
 refine nt ?_
 refine sr ?_
 iterate 2 refine mq ?_
 obtain⟨r1,Si,h⟩:=aa h
 have Sj:=oe k a0 c z_a0 a1 r1 Si
 refine fr 1 ?_
 refine fr 1 ?_
 refine aI (Δ:=[_,_]) (F:=_) (λ_ _ _=>ae rfl _) rfl rfl (aV [.tmp 10,.tmp 11] rfl rfl Df rfl Sj) ⟨rfl,rfl,trivial⟩ λ_=>?_
 refine aY rfl rfl rfl (bz rfl D4 G0) trivial λb2=>?_
 refine aS rfl rfl (aO rfl EH rfl rfl rfl) ⟨rfl,rfl,trivial⟩ ?_
 refine eC (iV (t:=(.arr 7 Tr)) (x:=r1) [7] .rep ⟨rfl,trivial⟩) ?_
 refine nt ?_
 refine dw (Z:=Unit) (α:=Unit) (λz4 x3=>[]) (λz4 x3=>[.obj c 129 (aN a0 z_a0),.inv z_a0 (bS k a0)]) (λe=>e=r) h (λe h=>Option.some.inj h) (λK hR h=>?_) (λz4 x3 h=>?_)
 .
  refine sr (mq ?_);refine aq (nt (aj ?_));refine aF (λz6 y5=>[(0,Pt c),(7,.at (.arr 7 Tr) r1),(8,I y5)]) (λz6 y5=>[.obj c 129 (aN a0 z_a0),.inv z_a0 (bS k a0)]) (ek k a0 r1) k () a2 (λ_=>rfl) h (SE.fin [0,1] ⟨rfl,rfl,rfl,trivial⟩ rfl) (λn z6 y5 h=>?_);unfold ek at h;refine ak (sr ?_);iterate 2 refine mq ?_
  refine ja (cF rfl) ?_;refine fl gi ?_;refine fl eE ?_;refine lo lD ?_;refine ol AA ?_;refine jb (bJ rfl) ?_;refine nt (ci h (λh=>?_) (λh=>?_))
  .refine sk (dw (Z:=Unit) (α:=Unit) (λz8 x7=>[(0,Pt c),(7,.at (.arr 7 Tr) r1),(8,I y5)]) (λz8 x7=>[.obj c 129 (aN a0 z_a0),.inv z_a0 (bS k a0)]) (λe=>e=r) h (λe h=>hR e h) (λK hR h=>?_) (λz8 x7 h=>?_))
   .refine aj (ak (ak (cP ?_)));refine dm ?_;obtain⟨x9,zz,h⟩:=aa h;refine db (bA rfl zz) ?_;obtain⟨SC,gw,h⟩:=aa h;refine db (bY (t:=Tr) rfl HH iJ gw) ?_;refine da (ap (t:=Tr) rfl iJ rfl) ?_;refine dm ?_;obtain⟨SB,Y,h⟩:=aa h;refine db (bY (t:=Tr) rfl HH iJ Y) ?_;refine da (ap (t:=Tr) rfl iJ rfl) ?_;refine df ew ?_;obtain⟨SD,l,h⟩:=aa h;refine jb (Fg rfl (am l).1 (am l).2) ?_;refine nt (ci h (λh=>?_) (λh=>?_))
    .refine fP (bQ (c8 (an ?_)));exact jz ((),()) h [0,1]
    .refine sk (sr (mq ?_));refine ja (cF rfl) ?_;refine fl gi ?_;refine fl fH ?_;refine lo cG ?_;refine eK rfl ?_;refine nt (aj (aF (λD j=>[(0,Pt c),(7,.at (.arr 7 Tr) r1),(8,I y5),(36,I a0.1),(37,I j)]) (λD j=>[.obj c 129 (aN a0 z_a0),.inv z_a0 (bS k a0)]) (eh k a0 r1 y5) k () 0 (λ_=>rfl) h (SE.fin [0,1] ⟨rfl,rfl,rfl,rfl,rfl,trivial⟩ rfl) (λn D j h=>?_)));unfold eh at h;refine sr (jb (bJ rfl) ?_);refine nt (ak (ci h (λh=>?_) (λh=>?_)))
     .refine sk (ak (aj (sr (mq ?_))));refine aq (nt ?_);refine aH (Z:=Unit) (α:=Bool) (λy u=>[(0,Pt c),(7,.at (.arr 7 Tr) r1),(8,I y5),(36,I a0.1),(37,I j),(54,.eq (.bool u))]) (λy u=>[.obj c 129 (aN a0 z_a0),.inv z_a0 (bS k a0)]) h (λK h=>?_) (λy u h=>?_)
      .refine ab ?_;iterate 2 refine mq ?_
       obtain⟨SA,X,h⟩:=aa h;refine jb (bY (t:=Tr) rfl HH iJ X) ?_;obtain⟨Sz,U,h⟩:=aa h;refine jb (bY (t:=Ti) rfl Az cG U) ?_;refine ja (ap (t:=Ti) rfl cG rfl) ?_;refine jb (bJ rfl) ?_;refine mq ?_;refine cD (s:=46) rfl (λhb=>?_) (λhb=>?_)
       .replace h:=eU (uF hb) h;refine gm ?_;obtain⟨Sr,Q,h⟩:=aa h;refine gb (bA rfl Q) ?_;refine gm ?_;obtain⟨Sl,O,h⟩:=aa h;refine gb (bY (t:=Tr) rfl HH iJ O) ?_;obtain⟨qt,M,h⟩:=aa h;refine gb (bY (t:=Ti) rfl Az cG M) ?_;refine ga (ap (t:=Ti) rfl cG rfl) ?_;refine gb (jk rfl) ?_;refine pt (nl ?_);exact jz ((),decide (qt=0)) h [0,1]
       .replace h:=c6 (uG hb) h;iterate 7 refine gn ?_
        refine pf (nl ?_);exact jz ((),false) h [0,1]
      .refine cv h (λh=>?_) (λh=>?_)
       .refine sr (cq (nt (ay (br (bD (br (bD (bC ?_))))))));obtain rfl:=hR _ h;exact aM () [_] 2 ⟨rfl,trivial⟩ rfl
       .refine be (aR (tn (ab ?_)));obtain⟨mw,J,h⟩:=aa h;refine jb (bA rfl J) ?_;refine mq (nl ?_);exact jz ((),mw) h [0,1]
     .refine fP (bQ (bQ (c8 (bn ?_))));exact jz ((),()) h [0,1]
   .refine ab (mq ?_);obtain⟨mc,E,h⟩:=aa h;refine jb (bA rfl E) ?_;refine aq (nl ?_);exact jz ((),mc) h [0,1]
  .refine xa ?_;exact jz ((),()) h [0,1]
 .
  refine sr (cq (nt (ay ?_)));cases h;exact aM () [_] 2 ⟨rfl,trivial⟩ rfl
def mr(k:Nat)(a0:Int)(a1:ah)(a2:Int):Option Bool:=
 (iu k a1 a0 a2).bind λr1=>
 some r1
theorem sj(k:Nat)(a0:Int)(a1:ah)(c z_a1 j:Nat)(a2:Int)(e:Nat)(r:Bool)(h:mr k a0 a1 a2=some r):
 bX (dF Tryz.prog) 54 [.eq (.int .u8 a0),Pt j,Pt e] [.obj c 129 (aN a1 z_a1),.inv z_a1 (bS k a1),.obj j 70 (Pt c),.obj e 3 (I a2)] (λ_:Unit=>(bI [.eq (.bool r)],[.obj c 129 (aN a1 z_a1),.inv z_a1 (bS k a1),.obj j 70 (Pt c),.obj e 3 (I a2)])):=by
 unfold mr at h
 replace h:=bg h
 refine bX.of 9 Tryz.func54 rfl Tryz.ntmps54 rfl λS w0=>?_
 refine sr ?_
 refine cq ?_
 refine nt ?_
 refine sr ?_
 refine fr 2 ?_
 refine lo H8 ?_
 refine mq ?_
 refine fr 3 ?_
 refine lo cG ?_
 obtain⟨r1,l,h⟩:=aa h
 have n:=nz k a1 c z_a1 a0 a2 r1 l
 refine fr 3 ?_
 refine fr 3 ?_
 refine aI (Δ:=[_,_]) (F:=_) (λ_ _ _=>ae rfl _) rfl rfl (aV [.tmp 5,.tmp 6,.tmp 7] rfl rfl QV rfl n) ⟨rfl,rfl,rfl,trivial⟩ λ_=>?_
 refine aq ?_
 refine nt ?_
 refine ay ?_
 refine ce (SE.fin (Γ':=[(4,_)]) [0,1,3,2] ⟨rfl,trivial⟩ rfl) ?_
 cases h
 exact aM () [_] 4 ⟨rfl,trivial⟩ rfl
def dZ(k:Nat)(a0:(List Int))(a1_0:ah)(a1_1:Int):Nat->Int->Option (Except Int Unit)
 |0,_=>none
 |n+1,y3=>
  if y3 < (a0.length:Int) then((aU a0 y3).bind λx5=>
  (mr k x5 a1_0 a1_1).bind λr6=>
  if r6=true then(some (.error y3)) else((ck (y3+1)).bind λx7=>
  dZ k a0 a1_0 a1_1 n x7)) else(some (.ok ()))
def il(k:Nat)(a0:(List Int))(a1_0:ah)(a1_1:Int):Option Int:=
 bE (α:=Unit) (dZ k a0 a1_0 a1_1 k 0) (some) λ_=>
 some (-1:Int)
theorem nj(k:Nat)(a0:(List Int))(a1_0:ah)(b_a1_0 z_a1_0 c_a1_0:Nat)(a1_1:Int)(c_a1_1:Nat)(r:Int)(h:il k a0 a1_0 a1_1=some r):
 bX (dF Tryz.prog) 83 [.rep (.slice (.int .u8)) a0,.eq (.func (.func 54) #[] #[(Pv c_a1_0),(Pv c_a1_1)])] [.obj b_a1_0 129 (aN a1_0 z_a1_0),.inv z_a1_0 (bS k a1_0),.obj c_a1_0 70 (Pt b_a1_0),.obj c_a1_1 3 (I a1_1)] (λ_:Unit=>(bI [I r],[.obj b_a1_0 129 (aN a1_0 z_a1_0),.inv z_a1_0 (bS k a1_0),.obj c_a1_0 70 (Pt b_a1_0),.obj c_a1_1 3 (I a1_1)])):=by
 unfold il at h
 replace h:=bg h
 refine bX.of 19 Tryz.func83 rfl Tryz.ntmps83 rfl λS w0=>?_
 refine sr ?_
 refine cq ?_
 refine nt ?_
 refine dw (Z:=Unit) (α:=Unit) (λz2 x1=>[]) (λz2 x1=>[.obj b_a1_0 129 (aN a1_0 z_a1_0),.inv z_a1_0 (bS k a1_0),.obj c_a1_0 70 (Pt b_a1_0),.obj c_a1_1 3 (I a1_1)]) (λe=>e=r) h (λe h=>Option.some.inj h) (λK hR h=>?_) (λz2 x1 h=>?_)
 .
  refine sr (mq ?_);refine ol zk ?_;refine eK rfl ?_;refine nt (aj (aF (λz4 y3=>[(0,.rep (.slice (.int .u8)) a0),(1,.eq (.func (.func 54) #[] #[(Pv c_a1_0),(Pv c_a1_1)])),(7,I (a0.length:Int)),(8,I y3)]) (λz4 y3=>[.obj c_a1_0 70 (Pt b_a1_0),.obj b_a1_0 129 (aN a1_0 z_a1_0),.obj c_a1_1 3 (I a1_1),.inv z_a1_0 (bS k a1_0)]) (dZ k a0 a1_0 a1_1) k () 0 (λ_=>rfl) h (SE.fin [2,0,3,1] ⟨rfl,rfl,rfl,rfl,trivial⟩ rfl) (λn z4 y3 h=>?_)));unfold dZ at h;refine sr (jb (bJ rfl) ?_);refine nt (ak (ci h (λh=>?_) (λh=>?_)))
  .refine sk (ak (aj (sr (mq ?_))));refine aq (nt (sr ?_));iterate 3 refine mq ?_
   obtain⟨x5,j,h⟩:=aa h;refine jb (aX (t:=(.int .u8)) rfl zk oU j) ?_;refine ja (ap (t:=(.int .u8)) rfl oU rfl) ?_;obtain⟨r6,l,h⟩:=aa h;refine fr 2 ?_;refine fr 1 ?_;refine fr 3 ?_;refine fr 3 ?_;refine aI (Δ:=[_,_,_,_]) (F:=_) (λ_ _ _=>ae rfl _) rfl rfl (pV (fs:=[]) (cs:=[(Pv c_a1_0),(Pv c_a1_1)]) (ags:=[.eq (.int .u8 x5)]) [.tmp 15] rfl rfl QW rfl (sj k x5 a1_0 b_a1_0 z_a1_0 c_a1_0 a1_1 c_a1_1 r6 l)) ⟨rfl,rfl,trivial⟩ λ_=>?_;refine nt (cv h (λh=>?_) (λh=>?_))
   .refine sr (mq ?_);refine aq (nt (ay (br (bD (bC ?_)))));obtain rfl:=hR _ h;exact aM () [_] 4 ⟨rfl,trivial⟩ rfl
   .refine be (aR (tn (ab ?_)));obtain⟨x7,c,h⟩:=aa h;refine jb (bA rfl c) ?_;refine mq (nl ?_);exact jz ((),x7) h [2,0,3,1]
  .refine xa ?_;exact jz ((),()) h [1,3,0,2]
 .
  refine sr (cq (nt (ay ?_)));cases h;exact aM () [_] 4 ⟨rfl,trivial⟩ rfl
def d4(k:Nat)(a0:(List Int))(a1_0:ah)(a1_1:Int):Option Bool:=
 (il k a0 a1_0 a1_1).bind λr1=>
 some (decide (0≤r1))
theorem lP(k:Nat)(a0:(List Int))(a1_0:ah)(b_a1_0 z_a1_0 c_a1_0:Nat)(a1_1:Int)(c_a1_1:Nat)(r:Bool)(h:d4 k a0 a1_0 a1_1=some r):
 bX (dF Tryz.prog) 56 [.rep (.slice (.int .u8)) a0,.eq (.func (.func 54) #[] #[(Pv c_a1_0),(Pv c_a1_1)])] [.obj b_a1_0 129 (aN a1_0 z_a1_0),.inv z_a1_0 (bS k a1_0),.obj c_a1_0 70 (Pt b_a1_0),.obj c_a1_1 3 (I a1_1)] (λ_:Unit=>(bI [.eq (.bool r)],[.obj b_a1_0 129 (aN a1_0 z_a1_0),.inv z_a1_0 (bS k a1_0),.obj c_a1_0 70 (Pt b_a1_0),.obj c_a1_1 3 (I a1_1)])):=by
 unfold d4 at h
 replace h:=bg h
 refine bX.of 9 Tryz.func56 rfl Tryz.ntmps56 rfl λS w0=>?_
 refine sr ?_
 refine cq ?_
 refine nt ?_
 refine sr ?_
 iterate 2 refine mq ?_
 obtain⟨r1,c,h⟩:=aa h
 have e:=nj k a0 a1_0 b_a1_0 z_a1_0 c_a1_0 a1_1 c_a1_1 r1 c
 refine fr 3 ?_
 refine fr 3 ?_
 refine fr 3 ?_
 refine fr 3 ?_
 refine aI (Δ:=[_,_,_,_]) (F:=_) (λ_ _ _=>ae rfl _) rfl rfl (aV [.tmp 5,.tmp 6] rfl rfl QJ rfl e) ⟨rfl,rfl,trivial⟩ λ_=>?_
 refine jb (jj rfl) ?_
 refine aq ?_
 refine nt ?_
 refine ay ?_
 cases h
 exact aM () [_] 4 ⟨rfl,trivial⟩ rfl
def po(k:Nat)(a0:ah)(a1:Int):Option ((List Int)×Int):=
 (lU k a0 ([]:(List Int)) [a1] ([]:(List Int))).bind λr3=>
 fJ r3.1 (if¬(r3.2.2=0) then(some (([]:(List Int)),r3.2.2)) else(none)) (λq4=>if¬(r3.2.2=0) then(some (([]:(List Int)),r3.2.2)) else((lq k (uT (λ(c:(List Int)) (e:Int)=>
  (ml k a0 a1 e).bind λr=>
  fJ r (none) (λs=>(d4 k r3.2.1 s a1).bind λn=>
  if¬(n=true) then((cO (cE (length c+length [e]))).bind λ_=>
  some (c++[e],true)) else(some (c,true))))) a0.1 (([]:(List Int)),false)).bind λh=>
 if h.2=true then(none) else((pj k h.1).bind λl=>
 (iq k l).bind λj=>
 some (j,0))))
theorem uB(k:Nat)(a0:ah)(a1:Int)(r:(List Int)×Int)(h:po k a0 a1=some r):
 bX (dF Tryz.prog) 22 [.rep au a0,I a1] [] (λ_:Unit=>(bI [.rep Tl r.1,I r.2],[])):=by
 unfold po at h
 replace h:=bg h
 refine t9 44 Tryz.func22 rfl Tryz.ntmps22 rfl λS w0=>?_
 refine sr ?_
 refine bx λb1=>?_
 refine bx λb2=>?_
 refine cq ?_
 refine cq ?_
 refine nt ?_
 refine sr ?_
 refine fr 1 ?_
 refine lo iM ?_
 refine fr 1 ?_
 refine lo cG ?_
 refine ja (bb (t:=Ti) [(.tmp 15,_)] [a1] rfl rfl dA (.cons rfl .int .nil) rfl rfl) ?_
 obtain⟨r3,Sl,h⟩:=aa h
 have y:=mj k a0 ([]:(List Int)) [a1] ([]:(List Int)) r3 Sl
 rcases hr:r3.1 with _ |q4
 .
  rw [hr] at h y;replace h:=uI h;refine aI (Δ:=[]) (F:=_) (λ_ _ _=>ae rfl _) rfl rfl (bB (N:=[(.tmp 14,.rep au a0),(.const (.slice none 0 0),.eq (.slice none 0 0)),(.tmp 16,.rep Tl [a1]),(.const (.slice none 0 0),.eq (.slice none 0 0))]) (aV [.tmp 14,.const (.slice none 0 0),.tmp 16,.const (.slice none 0 0)] rfl rfl Dc rfl y) λ_ _ _ hn=>⟨hn.1,(aA (t:=Tl) (x:=([]:(List Int))) .nil rfl rfl hn.2.1),hn.2.2.1,(aA (t:=Tl) (x:=([]:(List Int))) .nil rfl rfl hn.2.2.2.1),trivial⟩) ⟨rfl,rfl,rfl,rfl,trivial⟩ λ_=>?_;refine mq ?_;refine xr ?_;refine xr ?_;refine xr ?_;refine aY rfl rfl rfl (bz rfl HK JK) trivial λb5=>?_;refine aq ?_;refine aS rfl rfl (aO rfl vR rfl rfl rfl) ⟨rfl,rfl,trivial⟩ ?_;refine aq (nt (ak (sr ?_)));refine mq ?_;refine jb (eL rfl) ?_;refine nt (cn h (λh=>?_) (λh=>?_))
  .refine sr (mq ?_);refine cq ?_;refine aq (nt (rx ?_));refine ce (eH (t:=Tl) (x:=([]:(List Int))) 4 rfl .nil rfl rfl) ?_;refine yX ?_;cases h;exact rb
  .cases h
 .
  rw [hr] at h y;replace h:=uH h;refine aI (Δ:=[]) (F:=_) (λ_ _ _=>ae rfl _) rfl rfl (bB (N:=[(.tmp 14,.rep au a0),(.const (.slice none 0 0),.eq (.slice none 0 0)),(.tmp 16,.rep Tl [a1]),(.const (.slice none 0 0),.eq (.slice none 0 0))]) (aV [.tmp 14,.const (.slice none 0 0),.tmp 16,.const (.slice none 0 0)] rfl rfl Dc rfl y) λ_ _ _ hn=>⟨hn.1,(aA (t:=Tl) (x:=([]:(List Int))) .nil rfl rfl hn.2.1),hn.2.2.1,(aA (t:=Tl) (x:=([]:(List Int))) .nil rfl rfl hn.2.2.2.1),trivial⟩) ⟨rfl,rfl,rfl,rfl,trivial⟩ λz6=>?_;refine mq ?_;refine xr ?_;refine xr ?_;refine xr ?_;refine aY rfl rfl rfl (bz rfl HK JK) trivial λb7=>?_;refine aq ?_;refine aS rfl rfl (aO rfl vR rfl rfl rfl) ⟨rfl,rfl,trivial⟩ ?_;refine aq (nt (ak (sr ?_)));refine mq ?_;refine jb (eL rfl) ?_;refine nt (cn h (λh=>?_) (λh=>?_))
  .refine sr (mq ?_);refine cq ?_;refine aq (nt (rx ?_));refine ce (eH (t:=Tl) (x:=([]:(List Int))) 4 rfl .nil rfl rfl) ?_;refine yX ?_;cases h;exact rb
  .refine sk (sr (aY rfl rfl rfl (bz rfl HK JK) trivial λb8=>?_));refine nt (ak (sr (fl fH ?_)));refine fr 5 ?_;refine lo cG ?_;refine aY rfl rfl rfl (av [.tmp 25] rfl rfl OW rfl (qg a0.1)) ⟨rfl,trivial⟩ λb9=>?_;refine nt (aj (iL (SE.nil 71 (.int .u8)) ?_));refine dC 7 rfl ?_;refine dC 7 rfl ?_;refine dC 7 rfl ?_;refine dC 7 rfl ?_;refine dC 4 rfl ?_;refine dC 7 rfl ?_;refine dC 7 rfl ?_;refine dC 7 rfl ?_;obtain⟨u,qt,h⟩:=aa h;refine qB (Δ:=[.obj b9 3 (I a0.1),.obj b1 26 (.rep au a0),.obj b8 74 (.eq (.slice none 0 0)),.sl (.slice none 0 0) 71 (.int .u8) ([]:(List Int)),.obj b7 74 (.rep (.slice (.int .u8)) r3.2.1),.obj z6.1 129 (aN q4 z6.2),.inv z6.2 (bS k q4),.obj b2 3 (I a1)]) (F:=[]) (X:=Value) (J:=λ_=>NG u.2) (E:=λc=>[.obj b9 3 (I a0.1),.obj b1 26 (.rep au a0),.obj b8 74 (.eq c),.sl c 71 (.int .u8) u.1,.obj b7 74 (.rep (.slice (.int .u8)) r3.2.1),.obj z6.1 129 (aN q4 z6.2),.inv z6.2 (bS k q4),.obj b2 3 (I a1)]) (r0:=λ_=>.tup .any) rfl rfl OR (λrec hp ha hb hs hpe hN hv l=>?_) (λdl c=>sU (λhj=>?_) (λhj=>?_))
   .rcases rec with⟨st0,pe0,fn0,tm0,ps0,as0,bd0,df0⟩;dsimp only at hp ha hb hs hpe hN hv;subst hp hs hpe;have vN:yS tm0 [(2,Pt b1),(3,Pt b2),(7,Pt b7),(9,Pt b8)]:=⟨congrArg A.eq (hv 2 _ rfl).symm,congrArg A.eq (hv 3 _ rfl).symm,congrArg A.eq (hv 7 _ rfl).symm,congrArg A.eq (hv 9 _ rfl).symm,trivial⟩;refine bX.pick (M:=(dF Tryz.prog)) [1,0,2,3,4,5,6,7,8] [1,0,2,3,4,5,6,7,8] (nB (λ(c:Value) (q:(List Int)×Bool)=>[.raw l (.loop (jF ⟨.ready,none,fn0,tm0, #[27],as0,bd0,df0⟩ (NG q.2))),.obj b1 26 (.rep au a0),.obj b8 74 (.eq c),.sl c 71 (.int .u8) q.1,.obj b7 74 (.rep (.slice (.int .u8)) r3.2.1),.obj z6.1 129 (aN q4 z6.2),.inv z6.2 (bS k q4),.obj b2 3 (I a1)]) l (uT (λ(n:(List Int)) (j:Int)=>
    (ml k a0 a1 j).bind λs=>
    fJ s (none) (λO=>(d4 k r3.2.1 O a1).bind λD=>
    if¬(D=true) then((cO (cE (length n+length [j]))).bind λ_=>
    some (n++[j],true)) else(some (n,true))))) k a0.1 b9 (λc q p r' h=>?_) (.slice none 0 0) (([]:(List Int)),false) u qt) rfl (λ_=>rfl) (λ_=>rfl)
    obtain⟨rq,hq,h2,rfl⟩:=sV h;obtain⟨n,b5⟩:=q;obtain rfl:b5=false:=hq;replace h:=bg h2;obtain⟨j,hpv⟩:∃x,x=p:=⟨_,rfl⟩;subst hpv;refine YT.pick (R':=(λc:Value=>(.eq (.bool rq.2),[.raw l (.loop (jF ⟨.ready,none,fn0,tm0, #[27],as0,bd0,df0⟩ (NG (!rq.2)))),.obj b1 26 (.rep au a0),.obj b8 74 (.eq c),.sl c 71 (.int .u8) rq.1,.obj b7 74 (.rep (.slice (.int .u8)) r3.2.1),.obj z6.1 129 (aN q4 z6.2),.inv z6.2 (bS k q4),.obj b2 3 (I a1)]))) [0,1,2,3,4,5,6,7] [0,1,2,3,4,5,6,7] (G2 ha hb (N:=44) (Γ:=[(2,Pt b1),(3,Pt b2),(7,Pt b7),(9,Pt b8)]) rfl hN (by decide) vN (λS w=>?_)) rfl (λ_=>rfl) (λ_=>rfl);refine ab (aq (nl ?_));refine yZ rfl rfl ?_;refine aj (sr (fr 1 ?_));refine lo iM ?_;refine fr 7 ?_;refine lo cG ?_;refine mq ?_;obtain⟨s,mw,h⟩:=aa h;have e:=uy k a0 a1 j s mw;rcases hr:s with _ |O
    .rw [hr] at h e;replace h:=uI h;refine aI (Δ:=[]) (F:=_) (λ_ _ _=>ae rfl _) rfl rfl (av [.tmp 28,.tmp 29,.tmp 30] rfl rfl OU rfl e) ⟨rfl,rfl,rfl,trivial⟩ λ_=>?_;cases h
    .rw [hr] at h e;replace h:=uH h;refine aI (Δ:=[]) (F:=_) (λ_ _ _=>ae rfl _) rfl rfl (av [.tmp 28,.tmp 29,.tmp 30] rfl rfl OU rfl e) ⟨rfl,rfl,rfl,trivial⟩ λQ=>?_;refine aY rfl rfl rfl (bz rfl P6 Rb) trivial λzz=>?_;refine aS rfl rfl (aO rfl H8 rfl rfl rfl) ⟨rfl,rfl,trivial⟩ ?_;refine nt (sr (jb (qP [] [.tmp 11,.tmp 3] [] [(Pv zz),(Pv b2)] rfl rfl rfl) ?_));refine aq (nt (sr ?_));refine fr 8 ?_;refine lo vR ?_;refine mq ?_;obtain⟨D,mc,h⟩:=aa h;refine fr 4 ?_;refine fr 2 ?_;refine fr 4 ?_;refine fr 4 ?_;refine aI (Δ:=[_,_,_,_]) (F:=_) (λ_ _ _=>ae rfl _) rfl rfl (aV [.tmp 33,.tmp 34] rfl rfl QU rfl (lP k r3.2.1 O Q.1 Q.2 zz a1 b2 D mc)) ⟨rfl,rfl,trivial⟩ λ_=>?_;refine ja (hH rfl) ?_;refine nt (cw h (λh=>?_) (λh=>?_))
     .refine ab (fr 7 ?_);refine lo vR ?_;refine mq ?_;refine ja (bb (t:=(.int .u8)) [(.tmp 38,_)] [j] rfl rfl Ik (.cons rfl .int .nil) rfl rfl) ?_;obtain⟨Sr,Y,h⟩:=aa h;refine fr 8 ?_;refine dV rfl rfl rfl (cI rfl rfl Ik (am Y)) ⟨rfl,rfl,trivial⟩ λSi=>?_;refine t4 λo22=>?_;refine fr 1 ?_;refine aS rfl rfl (aO rfl vR o22 rfl rfl) ⟨rfl,rfl,trivial⟩ ?_;refine aE (aR (bj 5 rfl ?_));refine bj 10 rfl ?_;refine bj 10 rfl ?_;refine bj 8 rfl ?_;refine bj 5 rfl ?_;refine bj 5 rfl ?_;refine bj 9 rfl ?_;refine bj 10 rfl ?_;cases h;exact ov Si 7 rfl
     .refine be (aR (bj 3 rfl ?_));refine bj 10 rfl ?_;refine bj 10 rfl ?_;refine bj 6 rfl ?_;refine bj 10 rfl ?_;refine bj 10 rfl ?_;refine bj 9 rfl ?_;refine bj 10 rfl ?_;cases h;exact ov c 7 rfl
   .replace h:=c6 (Le hj) h;refine aR (tn (sr (fr 3 ?_)));refine lo vR ?_;obtain⟨U,gw,h⟩:=aa h;refine fr 4 ?_;refine kb (kR (N:=[(.tmp 41,.eq c),(.func 58,.eq (.func (.func 58) #[] #[]))]) (av [.tmp 41,.func 58] rfl rfl QT rfl (uA k u.1 U gw)) (λ_ _ _ hv hn=>⟨(lend hn.1 hv),hn.2.1,trivial⟩) (λ_=>⟨rfl,nH⟩)) ?_;obtain⟨Sj,Z,h⟩:=aa h;refine ja (av [.tmp 42] rfl rfl MM rfl (jJ k U Sj Z)) ?_;refine aq ?_;refine cq (nt (ay ?_));refine bj 2 rfl ?_;refine BX ?_;cases h;exact rb
   .replace h:=eU (Ld hj) h;cases h
def fL(k:Nat)(r2:(List (List Int)))(y6:Int×Int×(List (dU×dU))):Nat->Int->Option Int
 |0,_=>none
 |n+1,c=>
  ((if 0 < c then((ck (c - 1)).bind λl=>
  (aU r2 l).bind λj=>
  (aU j y6.1).bind λh=>
  some (decide (0≤h))) else(some false)):Option (Bool)).bind λr=>
  if r=true then((ck (c - 1)).bind λe=>
  fL k r2 y6 n e) else(some c)
def fM(k:Nat)(a0:ah)(r2:(List (List Int))):Nat->(Int×Int×(List (dU×dU)))->Option (List (eT×eT))
 |0,_=>none
 |n+1,y6=>
  bE (α:=Int×Int×(List (dU×dU))) (((fL k r2 y6 k y6.2.1):Option (Int)).bind λc=>
  if c=0 then((cO (xE (y6.1,y6.2.1))).bind λ_=>
  some (.error (zW y6.2.2 (y6.1,y6.2.1) ((-1:Int),0)))) else((ck (c - 1)).bind λr=>
  (aU r2 r).bind λl=>
  (ck (c - 1)).bind λj=>
  (c7 k a0 l y6.1 j).bind λh=>
  (ck (c - 1)).bind λe=>
  (cO (xE (y6.1,y6.2.1))).bind λ_=>
  some (.ok (h,e,zW y6.2.2 (y6.1,y6.2.1) (h,e))))) (some) λx8=>
  fM k a0 r2 n (x8.1,x8.2.1,x8.2.2)
def kJ(k:Nat)(a0:ah)(a1:Int)(a2:eT):Option (List (eT×eT)):=
 (kZ k a0 a1).bind λr2=>
 fM k a0 r2 k (a2.1,a2.2,([]:List (dU×dU)))
theorem qf(k:Nat)(a0:ah)(c z_a0:Nat)(a1:Int)(a2:eT)(r:(List (eT×eT)))(h:kJ k a0 a1 a2=some r):
 bX (dF Tryz.prog) 66 [Pt c,.eq (.int .u8 a1),.rep bH a2] [.obj c 129 (aN a0 z_a0),.inv z_a0 (bS k a0)] (λz:Nat=>(bI [.eq (.map (some z))],[.inv z (rZ r),.obj c 129 (aN a0 z_a0),.inv z_a0 (bS k a0)])):=by
 unfold kJ at h
 replace h:=bg h
 refine bX.of 56 Tryz.func66 rfl Tryz.ntmps66 rfl λS w0=>?_
 refine sr ?_
 refine bx λb1=>?_
 refine cq ?_
 refine nt ?_
 refine sr ?_
 iterate 2 refine mq ?_
 obtain⟨r2,SU,h⟩:=aa h
 have SV:=oe k a0 c z_a0 a1 r2 SU
 refine fr 2 ?_
 refine fr 2 ?_
 refine aI (Δ:=[_,_]) (F:=_) (λ_ _ _=>ae rfl _) rfl rfl (aV [.tmp 12,.tmp 13] rfl rfl Df rfl SV) ⟨rfl,rfl,trivial⟩ λ_=>?_
 refine aY rfl rfl rfl (bz rfl D4 G0) trivial λb3=>?_
 refine aS rfl rfl (aO rfl EH rfl rfl rfl) ⟨rfl,rfl,trivial⟩ ?_
 refine eC (iV (t:=(.arr 7 Tr)) (x:=r2) [7] .rep ⟨rfl,trivial⟩) ?_
 refine nt ?_
 refine sr ?_
 refine aY rfl rfl rfl (va rfl) trivial λz4=>?_
 refine eC (rL (rZ []) H5) ?_
 refine aq ?_
 refine nt ?_
 refine sr ?_
 refine aY rfl rfl rfl (bz rfl rQ yP) trivial λb5=>?_
 refine nt ?_
 refine sr ?_
 refine fl wH ?_
 refine aS rfl rfl (aO rfl cG rfl rfl rfl) ⟨rfl,rfl,trivial⟩ ?_
 refine nt ?_
 refine aj ?_
 refine dC 4 rfl ?_
 refine iL (jg (a:=.rep bH a2) (a':=.agg (.pair (I a2.1) (I a2.2))) (AE.trans Ci (AE.agg (AE.trans zc (AE.pair AE.int AE.int))))) ?_
 refine aF (λz7 y6=>[(0,Pt c),(5,Pt b1),(7,.at (.arr 7 Tr) r2),(8,.eq (.map (some z4))),(9,Pt b5)]) (λz7 y6=>[.obj c 129 (aN a0 z_a0),.obj b1 110 (.agg (.pair (I y6.1) (I y6.2.1))),.obj b5 110 (.agg (.pair (I (-1:Int)) (I 0))),.inv z_a0 (bS k a0),.inv z4 (rZ y6.2.2)]) (fM k a0 r2) k () (a2.1,a2.2,([]:List (dU×dU))) (λ_=>rfl) h (SE.fin [3,0,1,4,2] ⟨rfl,rfl,rfl,rfl,rfl,trivial⟩ rfl) (λn z7 y6 h=>?_)
 unfold fM at h
 refine Hr (Z:=Unit) (α:=Int×Int×(List (dU×dU))) (λz9 x8=>[(0,Pt c),(5,Pt b1),(7,.at (.arr 7 Tr) r2),(8,.eq (.map (some z4))),(9,Pt b5)]) (λz9 x8=>[.obj c 129 (aN a0 z_a0),.obj b1 110 (.agg (.pair (I x8.1) (I x8.2.1))),.obj b5 110 (.agg (.pair (I (-1:Int)) (I 0))),.inv z_a0 (bS k a0),.inv z4 (rZ x8.2.2)]) (λe=>e=r) h (λe h=>Option.some.inj h) (λK hR h=>?_) (λz9 x8 h=>?_)
 .
  refine aj (sr (fl Jj ?_));refine fr 1 ?_;refine lo cG ?_;refine aq (nt ?_);refine aH (Z:=Unit) (α:=Int) (λO D=>[(0,Pt c),(5,Pt b1),(7,.at (.arr 7 Tr) r2),(8,.eq (.map (some z4))),(9,Pt b5),(10,I D)]) (λO D=>[.obj c 129 (aN a0 z_a0),.obj b1 110 (.agg (.pair (I y6.1) (I y6.2.1))),.obj b5 110 (.agg (.pair (I (-1:Int)) (I 0))),.inv z_a0 (bS k a0),.inv z4 (rZ y6.2.2)]) h (λK h=>?_) (λO D h=>?_)
  .refine aj (aF (λM s=>[(0,Pt c),(5,Pt b1),(7,.at (.arr 7 Tr) r2),(8,.eq (.map (some z4))),(9,Pt b5),(10,I s)]) (λM s=>[.obj c 129 (aN a0 z_a0),.obj b1 110 (.agg (.pair (I y6.1) (I y6.2.1))),.obj b5 110 (.agg (.pair (I (-1:Int)) (I 0))),.inv z_a0 (bS k a0),.inv z4 (rZ y6.2.2)]) (fL k r2 y6) k () y6.2.1 (λ_=>rfl) h (SE.fin [1,0,2,3,4] ⟨rfl,rfl,rfl,rfl,rfl,rfl,trivial⟩ rfl) (λn M s h=>?_));unfold fL at h;refine ak (aH (Z:=Unit) (α:=Bool) (λJ y=>[(0,Pt c),(5,Pt b1),(7,.at (.arr 7 Tr) r2),(8,.eq (.map (some z4))),(9,Pt b5),(10,I s),(30,.eq (.bool y))]) (λJ y=>[.obj c 129 (aN a0 z_a0),.obj b1 110 (.agg (.pair (I y6.1) (I y6.2.1))),.obj b5 110 (.agg (.pair (I (-1:Int)) (I 0))),.inv z_a0 (bS k a0),.inv z4 (rZ y6.2.2)]) h (λK h=>?_) (λJ y h=>?_))
   .refine cP ?_;refine dm ?_;refine db (oL rfl) ?_;refine xf rfl rfl rfl (bK rfl) ⟨rfl,trivial⟩ (λhb=>?_) (λhb=>?_)
    .replace h:=eU (uF hb) h;refine dG rfl rfl rfl rfl rfl (bK rfl) ⟨rfl,rfl,trivial⟩ ?_;obtain⟨Td,Sr,h⟩:=aa h;refine dG rfl rfl rfl rfl rfl (eI rfl Sr) ⟨rfl,rfl,rfl,trivial⟩ ?_;refine dG rfl rfl rfl rfl rfl (aG rfl wH) ⟨rfl,rfl,trivial⟩ ?_;refine jZ 1 rfl rfl rfl rfl rfl rfl (ax rfl cG o9 rfl) ⟨rfl,rfl,trivial⟩ ?_;obtain⟨Ta,Sl,h⟩:=aa h;refine dG rfl rfl rfl rfl rfl (bY (t:=Tr) rfl HH iJ Sl) ⟨rfl,rfl,rfl,trivial⟩ ?_;refine df ew ?_;obtain⟨SH,Sj,h⟩:=aa h;refine gb (bY (t:=Ti) rfl Az cG Sj) ?_;refine ga (ap (t:=Ti) rfl cG rfl) ?_;refine gb (jj rfl) ?_;refine pt (nl ?_);exact jz ((),decide (0≤SH)) h [0,1,2,3,4]
    .replace h:=c6 (uG hb) h;iterate 5 refine dg ?_
     refine df ew ?_;iterate 3 refine gn ?_
     refine pf (nl ?_);exact jz ((),false) h [0,1,2,3,4]
   .refine cv h (λh=>?_) (λh=>?_)
    .refine sk (aj (ab (mq ?_)));obtain⟨SG,Si,h⟩:=aa h;refine jb (eI rfl Si) ?_;refine aq (aE (bn ?_));exact jz ((),SG) h [0,1,2,3,4]
    .refine xa ?_;exact jz ((),s) h [0,1,2,3,4]
  .refine ak (sr (mq ?_));refine jb (jk rfl) ?_;refine nt (ci h (λh=>?_) (λh=>?_))
   .refine sr (mq ?_);refine fr 1 ?_;refine lo ji ?_;refine fr 2 ?_;refine lo ji ?_;refine eC (eH (t:=bH) (x:=(y6.1,y6.2.1)) 36 rfl (.agg (.pair .int .int)) trivial rfl) ?_;obtain⟨TG,SA,h⟩:=aa h;refine eC (eH (t:=bH) (x:=((-1:Int),0)) 37 rfl (.agg (.pair .int .int)) trivial rfl) ?_;refine fr 4 ?_;refine aS rfl rfl (pU (K:=kw) (V:=kw) (t:=(y6.1,y6.2.1)) (n:=((-1:Int),0)) (l:=y6.2.2) (λ_ _ _ h=>ma h) rfl DF lM (λ_ _ _ h=>ma h) (pM (am SA)) (pL _) pN) ⟨rfl,rfl,rfl,trivial⟩ ?_;refine nt (sr (mq ?_));refine aq (nt (rx (br (bD ?_))));refine ce (SE.fin (Γ':=[(6,_)]) [0,3,4,1,2] ⟨rfl,trivial⟩ rfl) ?_;obtain rfl:=hR _ h;exact aM z4 [.eq (.map (some z4))] 3 ⟨rfl,trivial⟩ rfl
   .refine sk (ak (qC ?_));refine cu rfl rfl rfl (bK rfl) ⟨rfl,trivial⟩ ?_;refine cu rfl rfl rfl (bK rfl) ⟨rfl,trivial⟩ ?_;obtain⟨S9,zz,h⟩:=aa h;refine cu rfl rfl rfl (eI rfl zz) ⟨rfl,rfl,trivial⟩ ?_;obtain⟨SD,qt,h⟩:=aa h;refine cu rfl rfl rfl (bY (t:=Tr) rfl HH iJ qt) ⟨rfl,rfl,trivial⟩ ?_;refine cu rfl rfl rfl (ap (t:=Tr) rfl iJ rfl) ⟨rfl,trivial⟩ ?_;refine cu rfl rfl rfl (aG rfl wH) ⟨rfl,trivial⟩ ?_;refine iI 1 rfl rfl rfl rfl (ax rfl cG o9 rfl) ⟨rfl,trivial⟩ ?_;refine cu rfl rfl rfl (bK rfl) ⟨rfl,trivial⟩ ?_;obtain⟨SC,mw,h⟩:=aa h;refine cu rfl rfl rfl (eI rfl mw) ⟨rfl,rfl,trivial⟩ ?_;obtain⟨j,SB,h⟩:=aa h;refine iI 0 rfl rfl rfl rfl (av [.tmp 39,.tmp 43,.tmp 45,.tmp 47] rfl rfl OP rfl (mU k a0 c z_a0 SD y6.1 SC j SB)) ⟨rfl,rfl,rfl,rfl,trivial⟩ ?_;refine cu rfl rfl rfl (bK rfl) ⟨rfl,trivial⟩ ?_;obtain⟨u,mc,h⟩:=aa h;refine cu rfl rfl rfl (eI rfl mc) ⟨rfl,rfl,trivial⟩ ?_;refine cu rfl rfl rfl (dO [(0,.tmp 48,_),(1,.tmp 50,_)] rfl E5 rQ Av (jO ⟨rfl,rfl,trivial⟩) rfl) ⟨rfl,rfl,trivial⟩ ?_;refine Ko (LM 110 (.agg (.pair (I 0) (I 0)))) (λ_=>rfl) rfl rfl rfl (bz rfl rQ yP) trivial ?_;refine xe 14 [true,true,true,true,true,true,true,true,true,true,true,true,true,true] [] [] [] rfl (by kernel_rfl) (by kernel_rfl) (by kernel_rfl) ew (λvs hv hB=>?_);obtain⟨w0,TD,rfl,SS⟩:=aD hv;obtain⟨w1,TC,rfl,SR⟩:=aD SS;obtain⟨w2,TB,rfl,SQ⟩:=aD SR;obtain⟨w3,TA,rfl,SO⟩:=aD SQ;obtain⟨w4,Tz,rfl,SN⟩:=aD SO;obtain⟨w5,Tv,rfl,SL⟩:=aD SN;obtain⟨w6,Tu,rfl,SK⟩:=aD SL;obtain⟨w7,Tt,rfl,SJ⟩:=aD SK;obtain⟨w8,To,rfl,SI⟩:=aD SJ;obtain⟨w9,S7,rfl,gw⟩:=aD SI;obtain⟨Tn,S5,rfl,Y⟩:=aD gw;obtain⟨Tm,SZ,rfl,X⟩:=aD Y;obtain⟨Tj,SY,rfl,U⟩:=aD X;obtain⟨Tf,SX,rfl,Q⟩:=aD U;obtain rfl:=sJ Q;obtain⟨E,rfl⟩:=LL hB.2.2.2.2.2.2.2.2.2.2.2.2.2.1;refine⟨[0,1,2,3,4,5],[.obj c 129 (aN a0 z_a0),.obj b1 110 (.agg (.pair (I y6.1) (I y6.2.1))),.obj b5 110 (.agg (.pair (I (-1:Int)) (I 0))),.inv z_a0 (bS k a0),.inv z4 (rZ y6.2.2),.obj E 110 (.agg (.pair (I 0) (I 0)))],by kernel_rfl,by decide,?_⟩;refine t3 5 rfl ?_;refine rM rfl rfl (aO rfl ji trivial rfl rfl) ⟨rfl,rfl,trivial⟩ (by kernel_rfl) ?_;refine xb ?_;refine ce (SE.fin (Γ':=[(0,Pt c),(5,Pt b1),(7,.at (.arr 7 Tr) r2),(8,.eq (.map (some z4))),(9,Pt b5),(11,Pt E)]) (Δ':=[.obj E 110 (.agg (.pair (I j) (I u))),.obj c 129 (aN a0 z_a0),.obj b1 110 (.agg (.pair (I y6.1) (I y6.2.1))),.obj b5 110 (.agg (.pair (I (-1:Int)) (I 0))),.inv z_a0 (bS k a0),.inv z4 (rZ y6.2.2)]) [0,1,2,3,4,5] ⟨rfl,rfl,rfl,rfl,rfl,rfl,trivial⟩ rfl) ?_;refine tn (sr (mq ?_));refine fr 2 ?_;refine lo ji ?_;refine fr 1 ?_;refine lo ji ?_;refine eC (eH (t:=bH) (x:=(y6.1,y6.2.1)) 53 rfl (.agg (.pair .int .int)) trivial rfl) ?_;obtain⟨TF,Sz,h⟩:=aa h;refine eC (eH (t:=bH) (x:=(j,u)) 54 rfl (.agg (.pair .int .int)) trivial rfl) ?_;refine fr 5 ?_;refine aS rfl rfl (pU (K:=kw) (V:=kw) (t:=(y6.1,y6.2.1)) (n:=(j,u)) (l:=y6.2.2) (λ_ _ _ h=>ma h) rfl DF lM (λ_ _ _ h=>ma h) (pM (am Sz)) (pL _) pN) ⟨rfl,rfl,rfl,trivial⟩ ?_
    refine nt (ab (fr 1 ?_));refine lo ji ?_;refine fr 2 ?_;refine aS rfl rfl (aO rfl ji trivial rfl rfl) ⟨rfl,rfl,trivial⟩ ?_;refine aE (bn ?_);exact jz ((),(j,u,zW y6.2.2 (y6.1,y6.2.1) (j,u))) h [3,0,4,5,2]
 .
  refine an ?_;exact jz ((),(x8.1,x8.2.1,x8.2.2)) h [0,1,2,3,4]
def jV(k:Nat)(r7:(List (eT×eT))):Nat->(Int×Int×(List Int))->Option (List Int)
 |0,_=>none
 |n+1,c=>
  (cO (xE (c.1,c.2.1))).bind λ_=>
  if¬((mt r7 (c.1,c.2.1) (0,0))=((-1:Int),0)) then((cO (xE (c.1,c.2.1))).bind λ_=>
  (cO (cE (length c.2.2+length [(mt r7 (c.1,c.2.1) (0,0)).1]))).bind λ_=>
  (cO (xE (c.1,c.2.1))).bind λ_=>
  jV k r7 n ((mt r7 (c.1,c.2.1) (0,0)).1,(mt r7 (c.1,c.2.1) (0,0)).2,c.2.2++[(mt r7 (c.1,c.2.1) (0,0)).1])) else(some c.2.2)
def ri(k:Nat)(a0:ah)(a1:(List Int))(a2:Int):Option ((List Int)×Int):=
 (jo k a0 a1 [a2] ([]:(List Int)) ([]:(List Int))).bind λr2=>
 fJ r2.1 (if¬(r2.2.2=0) then(some (([]:(List Int)),r2.2.2)) else(none)) (λq3=>if¬(r2.2.2=0) then(some (([]:(List Int)),r2.2.2)) else((gU k q3 r2.2.1 a2).bind λr5=>
 if r5 < 0 then(some (([]:(List Int)),11)) else((kJ k q3 r2.2.1 (a2,r5)).bind λr7=>
 ((jV k r7 k (a2,r5,[a2])):Option ((List Int))).bind λc=>
 (jD k c).bind λe=>
 some (e,0))))
theorem wx(k:Nat)(a0:ah)(a1:(List Int))(a2:Int)(r:(List Int)×Int)(h:ri k a0 a1 a2=some r):
 bX (dF Tryz.prog) 29 [.rep au a0,.rep Tl a1,I a2] [] (λ_:Unit=>(bI [.rep Tl r.1,I r.2],[])):=by
 unfold ri at h
 replace h:=bg h
 refine bX.of 64 Tryz.func29 rfl Tryz.ntmps29 rfl λS w0=>?_
 refine sr ?_
 refine bx λb1=>?_
 refine cq ?_
 refine cq ?_
 refine nt ?_
 refine sr ?_
 refine lo iM ?_
 iterate 2 refine mq ?_
 refine ja (bb (t:=Ti) [(.tmp 19,_)] [a2] rfl rfl dA (.cons rfl .int .nil) rfl rfl) ?_
 obtain⟨r2,Y,h⟩:=aa h
 have u:=lm k a0 a1 [a2] ([]:(List Int)) ([]:(List Int)) r2 Y
 rcases hr:r2.1 with _ |q3
 .
  rw [hr] at h u;replace h:=uI h;refine aI (Δ:=[]) (F:=_) (λ_ _ _=>ae rfl _) rfl rfl (bB (N:=[(.tmp 17,.rep au a0),(.tmp 18,.rep Tl a1),(.tmp 20,.rep Tl [a2]),(.const (.slice none 0 0),.eq (.slice none 0 0)),(.const (.slice none 0 0),.eq (.slice none 0 0))]) (aV [.tmp 17,.tmp 18,.tmp 20,.const (.slice none 0 0),.const (.slice none 0 0)] rfl rfl yx rfl u) λ_ _ _ hn=>⟨hn.1,hn.2.1,hn.2.2.1,(aA (t:=Tl) (x:=([]:(List Int))) .nil rfl rfl hn.2.2.2.1),(aA (t:=Tl) (x:=([]:(List Int))) .nil rfl rfl hn.2.2.2.2.1),trivial⟩) ⟨rfl,rfl,rfl,rfl,rfl,trivial⟩ λ_=>?_;refine mq ?_;refine xr ?_;refine xr ?_;refine xr ?_;refine aq ?_;refine aq ?_;refine aq (nt (ak (sr ?_)));refine mq ?_;refine jb (eL rfl) ?_;refine nt (cn h (λh=>?_) (λh=>?_))
  .refine sr (mq ?_);refine cq ?_;refine aq (nt (rx ?_));refine ce (eH (t:=Tl) (x:=([]:(List Int))) 6 rfl .nil rfl rfl) ?_;cases h;exact rb
  .cases h
 .
  rw [hr] at h u;replace h:=uH h;refine aI (Δ:=[]) (F:=_) (λ_ _ _=>ae rfl _) rfl rfl (bB (N:=[(.tmp 17,.rep au a0),(.tmp 18,.rep Tl a1),(.tmp 20,.rep Tl [a2]),(.const (.slice none 0 0),.eq (.slice none 0 0)),(.const (.slice none 0 0),.eq (.slice none 0 0))]) (aV [.tmp 17,.tmp 18,.tmp 20,.const (.slice none 0 0),.const (.slice none 0 0)] rfl rfl yx rfl u) λ_ _ _ hn=>⟨hn.1,hn.2.1,hn.2.2.1,(aA (t:=Tl) (x:=([]:(List Int))) .nil rfl rfl hn.2.2.2.1),(aA (t:=Tl) (x:=([]:(List Int))) .nil rfl rfl hn.2.2.2.2.1),trivial⟩) ⟨rfl,rfl,rfl,rfl,rfl,trivial⟩ λz4=>?_;refine mq ?_;refine xr ?_;refine xr ?_;refine xr ?_;refine aq ?_;refine aq ?_;refine aq (nt (ak (sr ?_)));refine mq ?_;refine jb (eL rfl) ?_;refine nt (cn h (λh=>?_) (λh=>?_))
  .refine sr (mq ?_);refine cq ?_;refine aq (nt (rx ?_));refine ce (eH (t:=Tl) (x:=([]:(List Int))) 6 rfl .nil rfl rfl) ?_;cases h;exact rb
  .refine sk (sr ?_);iterate 3 refine mq ?_
   obtain⟨r5,X,h⟩:=aa h;refine fr 1 ?_;refine fr 1 ?_;refine aI (Δ:=[_,_]) (F:=_) (λ_ _ _=>ae rfl _) rfl rfl (aV [.tmp 28,.tmp 29,.tmp 30] rfl rfl OZ rfl (kG k q3 z4.1 z4.2 r2.2.1 a2 r5 X)) ⟨rfl,rfl,rfl,trivial⟩ λ_=>?_;refine aq (nt (ak (sr ?_)));refine mq ?_;refine jb (bJ rfl) ?_;refine nt (ci h (λh=>?_) (λh=>?_))
   .refine sr (cq ?_);refine cq (nt (rx ?_));refine ce (eH (t:=Tl) (x:=([]:(List Int))) 6 rfl .nil rfl rfl) ?_;cases h;exact rb
   .refine sk (sr ?_);iterate 2 refine mq ?_
    refine jb (dO [(0,.tmp 34,_),(1,.tmp 35,_)] rfl E5 rQ Av (jO ⟨rfl,rfl,trivial⟩) rfl) ?_;refine aY rfl rfl rfl (bz rfl rQ yP) trivial λb6=>?_;refine aS rfl rfl (aO rfl ji trivial rfl rfl) ⟨rfl,rfl,trivial⟩ ?_;refine nt (sr ?_);iterate 2 refine mq ?_
    refine lo ji ?_;obtain⟨r7,U,h⟩:=aa h;refine fr 2 ?_;refine fr 2 ?_;refine aI (Δ:=[_,_]) (F:=_) (λ_ _ _=>ae rfl _) rfl rfl (bB (N:=[(.tmp 37,.eq (.pointer (some ⟨z4.1,0,none⟩))),(.tmp 38,.eq (.int .u8 r2.2.1)),(.tmp 39,.agg (.pair (I a2) (I r5)))]) (aV [.tmp 37,.tmp 38,.tmp 39] rfl rfl QP rfl (qf k q3 z4.1 z4.2 r2.2.1 (a2,r5) r7 U)) λ_ _ _ hn=>⟨hn.1,hn.2.1,(aA (t:=bH) (x:=(a2,r5)) (.agg (.pair .int .int)) trivial rfl hn.2.2.1),trivial⟩) ⟨rfl,rfl,rfl,trivial⟩ λz8=>?_;refine aq (nt (sr ?_));refine mq ?_;refine aY rfl rfl rfl (mf (t:=Ti) [(.tmp 41,_)] [a2] rfl rfl dA (.cons rfl .int .nil) rfl rfl) ⟨rfl,trivial⟩ λv9=>?_;refine aq (nt ?_);refine aH (Z:=Value) (α:=(List Int)) (λj s=>[(13,.eq (.map (some z8))),(14,.eq j)]) (λj s=>[.sl j 3 Ti s,.inv z4.2 (bS k q3),.inv z8 (rZ r7)]) h (λK h=>?_) (λj s h=>?_)
    .refine sr (ja (dO [(0,.const (.int .i64 (-1)),_)] rfl E5 rQ Av (jO ⟨rfl,trivial⟩) rfl) ?_);refine aY rfl rfl rfl (bz rfl rQ yP) trivial λmc=>?_;refine aS rfl rfl (aO rfl ji trivial rfl rfl) ⟨rfl,rfl,trivial⟩ ?_;refine nt (aj (aF (λe c=>[(12,Pt b6),(13,.eq (.map (some z8))),(14,.eq e.1),(15,.eq (.pointer (some ⟨e.2,0,none⟩)))]) (λe c=>[.obj b6 110 (.agg (.pair (I c.1) (I c.2.1))),.sl e.1 3 Ti c.2.2,.obj e.2 110 (.agg (.pair (I (-1:Int)) (I 0))),.inv z4.2 (bS k q3),.inv z8 (rZ r7)]) (jV k r7) k (v9,mc) (a2,r5,[a2]) (λ_=>rfl) h (SE.fin [5,1,0,4,2] ⟨rfl,rfl,rfl,rfl,trivial⟩ rfl) (λn e c h=>?_)));unfold jV at h;refine ak (ak (cP ?_));refine dm ?_;refine ea 0 (ax rfl ji (uc) rfl) ?_;obtain⟨zz,J,h⟩:=aa h;refine eb 4 (bB (N:=[(.tmp 44,.eq (.map (some z8))),(.tmp 45,.agg (.pair (I c.1) (I c.2.1)))]) (qQ (K:=kw) (V:=kw) (t:=(c.1,c.2.1)) (l:=r7) (λn=>.rep bH n) sT rfl DF (0,0) sR lM (λ_ _ _ h=>ma h) (pM (am J)) (pL _) pN) λ_ _ _ hn=>⟨hn.1,(aA (t:=bH) (x:=(c.1,c.2.1)) (.agg (.pair .int .int)) trivial rfl hn.2.1),trivial⟩) ?_;refine ea 2 (ax rfl ji (uc) rfl) ?_;refine df ew ?_;refine eC (eH (t:=bH) (x:=((-1:Int),0)) 47 rfl (.agg (.pair .int .int)) trivial rfl) ?_;refine jb (LR rfl ON rfl) ?_;refine nt (cn h (λh=>?_) (λh=>?_))
     .refine sk (ak (aj (ab ?_)));iterate 2 refine mq ?_
      refine lo ji ?_;refine eC (eH (t:=bH) (x:=(c.1,c.2.1)) 54 rfl (.agg (.pair .int .int)) trivial rfl) ?_;obtain⟨u16,E,h⟩:=aa h;refine fr 4 ?_;refine kb (bB (N:=[(.tmp 53,.eq (.map (some z8))),(.tmp 54,.rep bH (c.1,c.2.1))]) (qQ (K:=kw) (V:=kw) (t:=(c.1,c.2.1)) (l:=r7) (λn=>.rep bH n) sT rfl DF (0,0) sR lM (λ_ _ _ h=>ma h) (pM (am E)) (pL _) pN) λ_ _ _ hn=>⟨hn.1,hn.2.1,trivial⟩) ?_;refine ja (IC rfl Rj rfl cG (λ_=>rfl) rfl rfl rfl) ?_;refine ja (bb (t:=Ti) [(.tmp 56,_)] [(mt r7 (c.1,c.2.1) (0,0)).1] rfl rfl dA (.cons rfl .int .nil) rfl rfl) ?_;obtain⟨qt,D,h⟩:=aa h;refine fr 2 ?_;refine dV rfl rfl rfl (cI rfl rfl dA (am D)) ⟨rfl,rfl,trivial⟩ λO=>?_;refine aq (aE (aR (tn (ak (sr ?_)))));refine fr 3 ?_;refine lo ji ?_;refine nt (ab (aY rfl rfl rfl (bz rfl rQ yP) trivial λgw=>?_));refine aS rfl rfl (aO rfl ji trivial rfl rfl) ⟨rfl,rfl,trivial⟩ ?_;refine nt (ab (mq ?_));refine fr 4 ?_;refine lo ji ?_;refine eC (eH (t:=bH) (x:=(c.1,c.2.1)) 50 rfl (.agg (.pair .int .int)) trivial rfl) ?_;obtain⟨mw,y,h⟩:=aa h;refine fr 4 ?_;refine kb (bB (N:=[(.tmp 49,.eq (.map (some z8))),(.tmp 50,.rep bH (c.1,c.2.1))]) (qQ (K:=kw) (V:=kw) (t:=(c.1,c.2.1)) (l:=r7) (λn=>.rep bH n) sT rfl DF (0,0) sR lM (λ_ _ _ h=>ma h) (pM (am y)) (pL _) pN) λ_ _ _ hn=>⟨hn.1,hn.2.1,trivial⟩) ?_;refine fr 1 ?_;refine aS rfl rfl (aO rfl ji rfl rfl rfl) ⟨rfl,rfl,trivial⟩ ?_;refine nl (ce (jg (a:=.rep bH (mt r7 (c.1,c.2.1) (0,0))) (a':=.agg (.pair (I ((mt r7 (c.1,c.2.1) (0,0)).1)) (I ((mt r7 (c.1,c.2.1) (0,0)).2)))) (AE.trans Ci (AE.agg (AE.trans zc (AE.pair AE.int AE.int))))) ?_);exact jz ((O,gw),((mt r7 (c.1,c.2.1) (0,0)).1,(mt r7 (c.1,c.2.1) (0,0)).2,c.2.2++[(mt r7 (c.1,c.2.1) (0,0)).1])) h [0,4,2,5,1]
     .refine xa ?_;exact jz (e.1,c.2.2) h [1,3,4]
    .refine sr (mq ?_);refine fr 2 ?_;refine aS rfl rfl (Fh rfl rfl DF) ⟨rfl,trivial⟩ ?_;refine nt (sr (mq ?_));obtain⟨Q,M,h⟩:=aa h;refine fr 1 ?_;refine ka (av [.tmp 61] rfl rfl QO rfl (oY k s j Q M)) ?_;refine nt (sr (mq ?_));refine aq ?_;refine cq (nt (ay ?_));refine ce (iG [6,14,61,63] ⟨rfl,rfl,rfl,rfl,trivial⟩) ?_;cases h;exact rb
def lr(k:Nat)(a0:ah)(a1:Int)(r2:(Option ah)×(List Int)×Int)(q3:ah)(y7:(List Int)×Int):Nat->(Int×Int)->Option Int
 |0,_=>none
 |n+1,c=>
  if c.2 < (r2.2.1.length:Int) then((((aU r2.2.1 c.2).bind λr=>
  (kZ k q3 r).bind λu=>
  (aU u a1).bind λl=>
  (aU l y7.2).bind λj=>
  if a0.2.2.1≤j then((ck (c.1+1)).bind λh=>
  some h) else(some c.1)):Option (Int)).bind λs=>
  (ck (c.2+1)).bind λe=>
  lr k a0 a1 r2 q3 y7 n (s,e)) else(some c.1)
def lu(k:Nat)(a0:ah)(a1:Int)(r2:(Option ah)×(List Int)×Int)(q3:ah):Nat->((List Int)×Int)->Option (List Int)
 |0,_=>none
 |n+1,y7=>
  if y7.2 < a0.1 then(((((lr k a0 a1 r2 q3 y7 k (0,0)):Option (Int)).bind λc=>
  (ck ((r2.2.1.length:Int) - c)).bind λe=>
  (cO (cE (length y7.1+length [mz c e]))).bind λ_=>
  some (y7.1++[mz c e])):Option ((List Int))).bind λx9=>
  (ck (y7.2+1)).bind λh=>
  lu k a0 a1 r2 q3 n (x9,h)) else(some y7.1)
def tl(k:Nat)(a0:ah)(a1:Int):Option (Int×Int×Int):=
 (lU k a0 ([]:(List Int)) ([]:(List Int)) [a1]).bind λr2=>
 fJ r2.1 (if¬(r2.2.2=0) then(some (0,0,r2.2.2)) else(none)) (λq3=>if¬(r2.2.2=0) then(some (0,0,r2.2.2)) else(((lu k a0 a1 r2 q3 k (([]:(List Int)),0)):Option ((List Int))).bind λx5=>
 (lb k x5).bind λc=>
 if(r2.2.1.length:Int)≤c then(some (0,0,11)) else((fF k x5 c).bind λe=>
 some (e,c,0))))
theorem ye(k:Nat)(a0:ah)(a1:Int)(r:Int×Int×Int)(h:tl k a0 a1=some r):
 bX (dF Tryz.prog) 48 [.rep au a0,I a1] [] (λ_:Unit=>(bI [I r.1,I r.2.1,I r.2.2],[])):=by
 unfold tl at h
 replace h:=bg h
 refine bX.of 71 Tryz.func48 rfl Tryz.ntmps48 rfl λS w0=>?_
 refine sr ?_
 refine bx λb1=>?_
 refine cq ?_
 refine cq ?_
 refine cq ?_
 refine nt ?_
 refine sr ?_
 refine lo iM ?_
 refine mq ?_
 refine ja (bb (t:=Ti) [(.tmp 18,_)] [a1] rfl rfl dA (.cons rfl .int .nil) rfl rfl) ?_
 obtain⟨r2,SC,h⟩:=aa h
 have s:=mj k a0 ([]:(List Int)) ([]:(List Int)) [a1] r2 SC
 rcases hr:r2.1 with _ |q3
 .
  rw [hr] at h s;replace h:=uI h;refine aI (Δ:=[]) (F:=_) (λ_ _ _=>ae rfl _) rfl rfl (bB (N:=[(.tmp 17,.rep au a0),(.const (.slice none 0 0),.eq (.slice none 0 0)),(.const (.slice none 0 0),.eq (.slice none 0 0)),(.tmp 19,.rep Tl [a1])]) (aV [.tmp 17,.const (.slice none 0 0),.const (.slice none 0 0),.tmp 19] rfl rfl Dc rfl s) λ_ _ _ hn=>⟨hn.1,(aA (t:=Tl) (x:=([]:(List Int))) .nil rfl rfl hn.2.1),(aA (t:=Tl) (x:=([]:(List Int))) .nil rfl rfl hn.2.2.1),hn.2.2.2.1,trivial⟩) ⟨rfl,rfl,rfl,rfl,trivial⟩ λ_=>?_;refine mq ?_;refine xr ?_;refine xr ?_;refine xr ?_;refine aq ?_;refine aq ?_;refine aq (nt (ak (sr ?_)));refine mq ?_;refine jb (eL rfl) ?_;refine nt (cn h (λh=>?_) (λh=>?_))
  .refine sr (mq ?_);refine cq ?_;refine cq ?_;refine aq (nt (rx ?_));cases h;exact aM () [_,_,_] 0 ⟨rfl,rfl,rfl,trivial⟩ rfl
  .cases h
 .
  rw [hr] at h s;replace h:=uH h;refine aI (Δ:=[]) (F:=_) (λ_ _ _=>ae rfl _) rfl rfl (bB (N:=[(.tmp 17,.rep au a0),(.const (.slice none 0 0),.eq (.slice none 0 0)),(.const (.slice none 0 0),.eq (.slice none 0 0)),(.tmp 19,.rep Tl [a1])]) (aV [.tmp 17,.const (.slice none 0 0),.const (.slice none 0 0),.tmp 19] rfl rfl Dc rfl s) λ_ _ _ hn=>⟨hn.1,(aA (t:=Tl) (x:=([]:(List Int))) .nil rfl rfl hn.2.1),(aA (t:=Tl) (x:=([]:(List Int))) .nil rfl rfl hn.2.2.1),hn.2.2.2.1,trivial⟩) ⟨rfl,rfl,rfl,rfl,trivial⟩ λz4=>?_;refine mq ?_;refine xr ?_;refine xr ?_;refine xr ?_;refine aq ?_;refine aq ?_;refine aq (nt (ak (sr ?_)));refine mq ?_;refine jb (eL rfl) ?_;refine nt (cn h (λh=>?_) (λh=>?_))
  .refine sr (mq ?_);refine cq ?_;refine cq ?_;refine aq (nt (rx ?_));cases h;exact aM () [_,_,_] 0 ⟨rfl,rfl,rfl,trivial⟩ rfl
  .refine sk (sr (cq (nt ?_)));refine aH (Z:=Value) (α:=(List Int)) (λz6 x5=>[(8,.rep (.slice (.int .u8)) r2.2.1),(10,.eq z6)]) (λz6 x5=>[.sl z6 3 Ti x5,.inv z4.2 (bS k q3)]) h (λK h=>?_) (λz6 x5 h=>?_)
   .refine sr (fl fH ?_);refine fr 2 ?_;refine lo cG ?_;refine eK rfl ?_;refine nt (aj (iL (SE.nil 3 Ti) ?_));refine aF (λz8 y7=>[(1,I a1),(2,Pt b1),(7,.eq (.pointer (some ⟨z4.1,0,none⟩))),(8,.rep (.slice (.int .u8)) r2.2.1),(10,.eq z8),(28,I a0.1),(29,I y7.2)]) (λz8 y7=>[.obj b1 26 (.rep au a0),.obj z4.1 129 (aN q3 z4.2),.sl z8 3 Ti y7.1,.inv z4.2 (bS k q3)]) (lu k a0 a1 r2 q3) k (.slice none 0 0) (([]:(List Int)),0) (λ_=>rfl) h (SE.fin [1,2,0,3] ⟨rfl,rfl,rfl,rfl,rfl,rfl,rfl,trivial⟩ rfl) (λn z8 y7 h=>?_);unfold lu at h;refine sr (jb (bJ rfl) ?_);refine nt (ak (ci h (λh=>?_) (λh=>?_)))
    .refine sk (aH (Z:=Value) (α:=(List Int)) (λe x9=>[(1,I a1),(2,Pt b1),(7,.eq (.pointer (some ⟨z4.1,0,none⟩))),(8,.rep (.slice (.int .u8)) r2.2.1),(10,.eq e),(28,I a0.1),(29,I y7.2)]) (λe x9=>[.obj b1 26 (.rep au a0),.obj z4.1 129 (aN q3 z4.2),.sl e 3 Ti x9,.inv z4.2 (bS k q3)]) h (λK h=>?_) (λe x9 h=>?_))
     .refine aj (sr (mq ?_));refine aq (nt (sr ?_));refine cq (nt ?_);refine aH (Z:=Unit) (α:=Int) (λE j=>[(1,I a1),(2,Pt b1),(7,.eq (.pointer (some ⟨z4.1,0,none⟩))),(8,.rep (.slice (.int .u8)) r2.2.1),(10,.eq z8),(12,I j),(28,I a0.1),(29,I y7.2)]) (λE j=>[.obj b1 26 (.rep au a0),.obj z4.1 129 (aN q3 z4.2),.sl z8 3 Ti y7.1,.inv z4.2 (bS k q3)]) h (λK h=>?_) (λE j h=>?_)
      .refine sr (mq ?_);refine ol zk ?_;refine eK rfl ?_;refine nt (aj (aF (λD c=>[(1,I a1),(2,Pt b1),(7,.eq (.pointer (some ⟨z4.1,0,none⟩))),(8,.rep (.slice (.int .u8)) r2.2.1),(10,.eq z8),(11,I y7.2),(12,I c.1),(28,I a0.1),(29,I y7.2),(32,.rep (.slice (.int .u8)) r2.2.1),(33,I (r2.2.1.length:Int)),(34,I c.2)]) (λD c=>[.obj b1 26 (.rep au a0),.obj z4.1 129 (aN q3 z4.2),.sl z8 3 Ti y7.1,.inv z4.2 (bS k q3)]) (lr k a0 a1 r2 q3 y7) k () (0,0) (λ_=>rfl) h (SE.fin [0,1,2,3] ⟨rfl,rfl,rfl,rfl,rfl,rfl,rfl,rfl,rfl,rfl,rfl,rfl,trivial⟩ rfl) (λn D c h=>?_)));unfold lr at h;refine sr (jb (bJ rfl) ?_);refine nt (ak (ci h (λh=>?_) (λh=>?_)))
       .refine sk (aH (Z:=Unit) (α:=Int) (λy l=>[(1,I a1),(2,Pt b1),(7,.eq (.pointer (some ⟨z4.1,0,none⟩))),(8,.rep (.slice (.int .u8)) r2.2.1),(10,.eq z8),(11,I y7.2),(12,I l),(28,I a0.1),(29,I y7.2),(32,.rep (.slice (.int .u8)) r2.2.1),(33,I (r2.2.1.length:Int)),(34,I c.2)]) (λy l=>[.obj b1 26 (.rep au a0),.obj z4.1 129 (aN q3 z4.2),.sl z8 3 Ti y7.1,.inv z4.2 (bS k q3)]) h (λK h=>?_) (λy l h=>?_))
        .refine aj (sr ?_);obtain⟨Sr,gw,h⟩:=aa h;refine jb (aX (t:=(.int .u8)) rfl zk oU gw) ?_;refine ja (ap (t:=(.int .u8)) rfl oU rfl) ?_;refine aq (nt (ak ?_));refine cP ?_;refine dm ?_;refine dm ?_;obtain⟨SB,zz,h⟩:=aa h;refine Nw 1 3 rfl rfl (by kernel_rfl) rfl rfl rfl (aV [.tmp 38,.tmp 39] rfl rfl Df rfl (oe k q3 z4.1 z4.2 Sr SB zz)) ⟨rfl,rfl,trivial⟩ ?_;refine dm ?_;obtain⟨SG,Y,h⟩:=aa h;refine db (nq (t:=Tr) rfl HH iJ rfl rfl (uc) Y) ?_;refine dm ?_;obtain⟨SD,X,h⟩:=aa h;refine db (nq (t:=Ti) rfl Az cG rfl rfl (λ_=>rfl) X) ?_;refine da (aG rfl Ag) ?_;refine ea 0 (ax rfl cG o9 rfl) ?_;refine df ew ?_;refine jb (jj rfl) ?_;refine nt (ci h (λh=>?_) (λh=>?_))
         .refine ab (mq ?_);obtain⟨Sl,U,h⟩:=aa h;refine jb (bA rfl U) ?_;refine aq (aE (bn ?_));exact jz ((),Sl) h [0,1,2,3]
         .refine be (bn ?_);exact jz ((),c.1) h [0,1,2,3]
        .refine ab ?_;obtain⟨Sj,Q,h⟩:=aa h;refine jb (bA rfl Q) ?_;refine mq (nl ?_);exact jz ((),(l,Sj)) h [0,1,2,3]
       .refine xa ?_;exact jz ((),c.1) h [0,1,2,3]
      .refine ab ?_;iterate 3 refine mq ?_
       refine ol zk ?_;refine mq ?_;obtain⟨J,O,h⟩:=aa h;refine jb (eI rfl O) ?_;refine jb (AX rfl rfl) ?_;refine ja (bb (t:=Ti) [(.tmp 57,_)] [mz j J] rfl rfl dA (.cons rfl .int .nil) rfl rfl) ?_;obtain⟨SH,mc,h⟩:=aa h;refine fr 2 ?_;refine dV rfl rfl rfl (cI rfl rfl dA (am mc)) ⟨rfl,rfl,trivial⟩ λSz=>?_;refine aq (aE (bn ?_));exact jz (Sz,y7.1++[mz j J]) h [1,2,0,3]
     .refine ab ?_;obtain⟨Si,M,h⟩:=aa h;refine jb (bA rfl M) ?_;refine mq (nl ?_);exact jz (e,(x9,Si)) h [0,1,2,3]
    .refine xa ?_;exact jz (z8,y7.1) h [2,3]
   .refine sr (mq ?_);obtain⟨u,qt,h⟩:=aa h;refine ka (kR (N:=[(.tmp 61,.eq z6)]) (av [.tmp 61] rfl rfl OY rfl (nh k x5 u qt)) (λ_ _ _ hv hn=>⟨(lend hn.1 hv),trivial⟩) (λ_=>⟨rfl,nH⟩)) ?_;refine aq (nt (ak (sr ?_)));iterate 2 refine mq ?_
    refine ol zk ?_;refine jb (jj rfl) ?_;refine nt (ci h (λh=>?_) (λh=>?_))
    .refine sr (cq ?_);refine cq ?_;refine cq (nt (rx ?_));cases h;exact aM () [_,_,_] 0 ⟨rfl,rfl,rfl,trivial⟩ rfl
    .refine sk (sr ?_);iterate 2 refine mq ?_
     obtain⟨SA,mw,h⟩:=aa h;refine kb (kR (N:=[(.tmp 67,.eq z6),(.tmp 68,I u)]) (av [.tmp 67,.tmp 68] rfl rfl OS rfl (lO k x5 u SA mw)) (λ_ _ _ hv hn=>⟨(lend hn.1 hv),hn.2.1,trivial⟩) (λ_=>⟨rfl,nH⟩)) ?_;refine mq ?_;refine aq ?_;refine aq ?_;refine cq (nt (ay ?_));cases h;exact aM () [_,_,_] 0 ⟨rfl,rfl,rfl,trivial⟩ rfl
def qi(k:Nat):Option Bool:=
 (hP k ([]:(List cC))).bind λr1=>
 (fq k r1 [0]).bind λr2=>
 (hP k ([]:(List cC))).bind λr3=>
 (pq k r3).bind λr4=>
 (hP k ([]:(List cC))).bind λr5=>
 (rf k r5 2).bind λr6=>
 (hP k ([]:(List cC))).bind λr8=>
 (ri k r8 [0] 3).bind λr9=>
 (hP k ([]:(List cC))).bind λu=>
 (tl k u 2).bind λc=>
 (hP k ([]:(List cC))).bind λs=>
 (po k s 2).bind λe=>
 ((if r2.2=0 then(if r4.2=0 then(if r6.2=0 then(if r9.2=0 then(if c.2.2=0 then(if e.2=0 then(if r6.1=(1,3) then(if c.1=2 then(if c.2.1=2 then((jf k r2.1 [[1,(-1:Int),(-1:Int),(-1:Int)],[2,0,(-1:Int),(-1:Int)],[3,1,(-1:Int),(-1:Int)],[3,2,0,(-1:Int)],[(-1:Int),3,1,0]]).bind λr=>
 if r=true then((jf k r4.1 [[0],[0,1],[1]]).bind λn=>
 if n=true then((iy k r9.1 [0,1,3]).bind λl=>
 if l=true then((iy k e.1 [1,2]).bind λj=>
 some j) else(some false)) else(some false)) else(some false)) else(some false)) else(some false)) else(some false)) else(some false)) else(some false)) else(some false)) else(some false)) else(some false)) else(some false)):Option (Bool)).bind λh=>
 some h
theorem yo(k:Nat)(r:Bool)(h:qi k=some r):
 bX (dF Tryz.prog) 17 [] [] (λ_:Unit=>(bI [.eq (.bool r)],[])):=by
 unfold qi at h
 replace h:=bg h
 refine bX.of 110 Tryz.func17 rfl Tryz.ntmps17 rfl λS w0=>?_
 refine sr ?_
 refine cq ?_
 refine nt ?_
 refine sr ?_
 obtain⟨r1,SB,h⟩:=aa h
 have SL:=gf k ([]:(List cC)) r1 SB
 refine ja (bB (N:=[(.const (.slice none 0 0),.eq (.slice none 0 0))]) (av [.const (.slice none 0 0)] rfl rfl Db rfl SL) λ_ _ _ hn=>⟨(aA (t:=(.slice bN)) (x:=([]:(List cC))) .nil rfl rfl hn.1),trivial⟩) ?_
 refine ja (bb (t:=Ti) [(.const (.int .i64 (0)),_)] [0] rfl rfl dA (.cons rfl .int .nil) rfl rfl) ?_
 obtain⟨r2,SA,h⟩:=aa h
 have SK:=jd k r1 [0] r2 SA
 refine jb (aV [.tmp 15,.tmp 16] rfl rfl Jn rfl SK) ?_
 refine mq ?_
 refine xr ?_
 refine xr ?_
 refine aq ?_
 refine aq ?_
 refine nt ?_
 refine sr ?_
 obtain⟨r3,Sz,h⟩:=aa h
 have SJ:=gf k ([]:(List cC)) r3 Sz
 refine ja (bB (N:=[(.const (.slice none 0 0),.eq (.slice none 0 0))]) (av [.const (.slice none 0 0)] rfl rfl Db rfl SJ) λ_ _ _ hn=>⟨(aA (t:=(.slice bN)) (x:=([]:(List cC))) .nil rfl rfl hn.1),trivial⟩) ?_
 obtain⟨r4,Sr,h⟩:=aa h
 have SI:=uC k r3 r4 Sr
 refine ja (aV [.tmp 21] rfl rfl Q6 rfl SI) ?_
 refine mq ?_
 refine xr ?_
 refine xr ?_
 refine aq ?_
 refine aq ?_
 refine nt ?_
 refine sr ?_
 obtain⟨r5,Sl,h⟩:=aa h
 have SH:=gf k ([]:(List cC)) r5 Sl
 refine ja (bB (N:=[(.const (.slice none 0 0),.eq (.slice none 0 0))]) (av [.const (.slice none 0 0)] rfl rfl Db rfl SH) λ_ _ _ hn=>⟨(aA (t:=(.slice bN)) (x:=([]:(List cC))) .nil rfl rfl hn.1),trivial⟩) ?_
 obtain⟨r6,Sj,h⟩:=aa h
 have SG:=wv k r5 2 r6 Sj
 refine jb (aV [.tmp 26,.const (.int .i64 (2))] rfl rfl Q5 rfl SG) ?_
 refine mq ?_
 refine xr ?_
 refine xr ?_
 refine aY rfl rfl rfl (bz rfl zl Pl) trivial λb7=>?_
 refine aS rfl rfl (aO rfl um rfl rfl rfl) ⟨rfl,rfl,trivial⟩ ?_
 refine aq ?_
 refine nt ?_
 refine sr ?_
 obtain⟨r8,Si,h⟩:=aa h
 have SD:=gf k ([]:(List cC)) r8 Si
 refine ja (bB (N:=[(.const (.slice none 0 0),.eq (.slice none 0 0))]) (av [.const (.slice none 0 0)] rfl rfl Db rfl SD) λ_ _ _ hn=>⟨(aA (t:=(.slice bN)) (x:=([]:(List cC))) .nil rfl rfl hn.1),trivial⟩) ?_
 refine ja (bb (t:=Ti) [(.const (.int .i64 (0)),_)] [0] rfl rfl dA (.cons rfl .int .nil) rfl rfl) ?_
 obtain⟨r9,zz,h⟩:=aa h
 have SC:=wx k r8 [0] 3 r9 zz
 refine jc (aV [.tmp 31,.tmp 32,.const (.int .i64 (3))] rfl rfl Q1 rfl SC) ?_
 refine mq ?_
 refine xr ?_
 refine xr ?_
 refine aq ?_
 refine aq ?_
 refine nt ?_
 refine sr ?_
 obtain⟨u,O,h⟩:=aa h
 have Y:=gf k ([]:(List cC)) u O
 refine ja (bB (N:=[(.const (.slice none 0 0),.eq (.slice none 0 0))]) (av [.const (.slice none 0 0)] rfl rfl Db rfl Y) λ_ _ _ hn=>⟨(aA (t:=(.slice bN)) (x:=([]:(List cC))) .nil rfl rfl hn.1),trivial⟩) ?_
 obtain⟨qt,M,h⟩:=aa h
 have X:=ye k u 2 qt M
 refine jb (aV [.tmp 37,.const (.int .i64 (2))] rfl rfl QY rfl X) ?_
 refine mq ?_
 refine xr ?_
 refine xr ?_
 refine xr ?_
 refine aq ?_
 refine aq ?_
 refine aq ?_
 refine nt ?_
 refine sr ?_
 obtain⟨n,J,h⟩:=aa h
 have U:=gf k ([]:(List cC)) n J
 refine ja (bB (N:=[(.const (.slice none 0 0),.eq (.slice none 0 0))]) (av [.const (.slice none 0 0)] rfl rfl Db rfl U) λ_ _ _ hn=>⟨(aA (t:=(.slice bN)) (x:=([]:(List cC))) .nil rfl rfl hn.1),trivial⟩) ?_
 obtain⟨l,I,h⟩:=aa h
 have Q:=uB k n 2 l I
 refine jb (aV [.tmp 43,.const (.int .i64 (2))] rfl rfl Q3 rfl Q) ?_
 refine mq ?_
 refine xr ?_
 refine xr ?_
 refine aq ?_
 refine aq ?_
 refine nt ?_
 refine aH (Z:=Unit) (α:=Bool) (λe c=>[(0,.eq (.bool c))]) (λe c=>[]) h (λK h=>?_) (λe c h=>?_)
 .
  refine ab (mq ?_);refine jb (jk rfl) ?_;refine mq ?_;refine cD (s:=49) rfl (λhb=>?_) (λhb=>?_)
  .replace h:=eU (uF hb) h;refine gm ?_;refine gb (jk rfl) ?_;refine pt ?_;refine mq ?_;refine cD (s:=53) rfl (λhb=>?_) (λhb=>?_)
   .replace h:=eU (uF hb) h;refine gm ?_;refine gb (jk rfl) ?_;refine pt ?_;refine mq ?_;refine cD (s:=57) rfl (λhb=>?_) (λhb=>?_)
    .replace h:=eU (uF hb) h;refine gm ?_;refine gb (jk rfl) ?_;refine pt ?_;refine mq ?_;refine cD (s:=61) rfl (λhb=>?_) (λhb=>?_)
     .replace h:=eU (uF hb) h;refine gm ?_;refine gb (jk rfl) ?_;refine pt ?_;refine mq ?_;refine cD (s:=65) rfl (λhb=>?_) (λhb=>?_)
      .replace h:=eU (uF hb) h;refine gm ?_;refine gb (jk rfl) ?_;refine pt ?_;refine mq ?_;refine cD (s:=69) rfl (λhb=>?_) (λhb=>?_)
       .replace h:=eU (uF hb) h;refine lH rfl rfl rfl rfl rfl rfl (ax rfl um (uc) rfl) ⟨rfl,trivial⟩ ?_;refine gb (dO [(0,.const (.int .i64 (1)),_),(1,.const (.int .i64 (3)),_)] rfl E4 zl yO (jO ⟨rfl,rfl,trivial⟩) rfl) ?_;refine eC (eH (t:=bH) (x:=(1,3)) 71 rfl (.agg (.pair .int .int)) trivial rfl) ?_;refine gb (LV rfl QC rfl) ?_;refine pt ?_;refine mq ?_;refine cD (s:=74) rfl (λhb=>?_) (λhb=>?_)
        .replace h:=eU (uF hb) h;refine gm ?_;refine gb (jk rfl) ?_;refine pt ?_;refine mq ?_;refine cD (s:=78) rfl (λhb=>?_) (λhb=>?_)
         .replace h:=eU (uF hb) h;refine gm ?_;refine gb (jk rfl) ?_;refine pt ?_;refine mq ?_;refine cD (s:=82) rfl (λhb=>?_) (λhb=>?_)
          .replace h:=eU (uF hb) h;refine gm ?_;refine lI rfl rfl rfl rfl rfl rfl (bb (t:=Ti) [(.const (.int .i64 (1)),_),(.const (.int .i64 (-1)),_),(.const (.int .i64 (-1)),_),(.const (.int .i64 (-1)),_)] [1,(-1:Int),(-1:Int),(-1:Int)] rfl rfl dA (.cons rfl .int (.cons rfl .int (.cons rfl .int (.cons rfl .int .nil)))) rfl rfl) ⟨rfl,rfl,rfl,rfl,trivial⟩ ?_;refine lI rfl rfl rfl rfl rfl rfl (bb (t:=Ti) [(.const (.int .i64 (2)),_),(.const (.int .i64 (0)),_),(.const (.int .i64 (-1)),_),(.const (.int .i64 (-1)),_)] [2,0,(-1:Int),(-1:Int)] rfl rfl dA (.cons rfl .int (.cons rfl .int (.cons rfl .int (.cons rfl .int .nil)))) rfl rfl) ⟨rfl,rfl,rfl,rfl,trivial⟩ ?_;refine lI rfl rfl rfl rfl rfl rfl (bb (t:=Ti) [(.const (.int .i64 (3)),_),(.const (.int .i64 (1)),_),(.const (.int .i64 (-1)),_),(.const (.int .i64 (-1)),_)] [3,1,(-1:Int),(-1:Int)] rfl rfl dA (.cons rfl .int (.cons rfl .int (.cons rfl .int (.cons rfl .int .nil)))) rfl rfl) ⟨rfl,rfl,rfl,rfl,trivial⟩ ?_;refine lI rfl rfl rfl rfl rfl rfl (bb (t:=Ti) [(.const (.int .i64 (3)),_),(.const (.int .i64 (2)),_),(.const (.int .i64 (0)),_),(.const (.int .i64 (-1)),_)] [3,2,0,(-1:Int)] rfl rfl dA (.cons rfl .int (.cons rfl .int (.cons rfl .int (.cons rfl .int .nil)))) rfl rfl) ⟨rfl,rfl,rfl,rfl,trivial⟩ ?_;refine lI rfl rfl rfl rfl rfl rfl (bb (t:=Ti) [(.const (.int .i64 (-1)),_),(.const (.int .i64 (3)),_),(.const (.int .i64 (1)),_),(.const (.int .i64 (0)),_)] [(-1:Int),3,1,0] rfl rfl dA (.cons rfl .int (.cons rfl .int (.cons rfl .int (.cons rfl .int .nil)))) rfl rfl) ⟨rfl,rfl,rfl,rfl,trivial⟩ ?_;refine lI rfl rfl rfl rfl rfl rfl (bb (t:=Tl) [(.tmp 84,_),(.tmp 85,_),(.tmp 86,_),(.tmp 87,_),(.tmp 88,_)] [[1,(-1:Int),(-1:Int),(-1:Int)],[2,0,(-1:Int),(-1:Int)],[3,1,(-1:Int),(-1:Int)],[3,2,0,(-1:Int)],[(-1:Int),3,1,0]] rfl rfl oz (.cons rfl .rep (.cons rfl .rep (.cons rfl .rep (.cons rfl .rep (.cons rfl .rep .nil))))) rfl rfl) ⟨rfl,rfl,rfl,rfl,rfl,trivial⟩ ?_;obtain⟨mw,F,h⟩:=aa h;refine gb (av [.tmp 83,.tmp 89] rfl rfl OX rfl (lW k r2.1 [[1,(-1:Int),(-1:Int),(-1:Int)],[2,0,(-1:Int),(-1:Int)],[3,1,(-1:Int),(-1:Int)],[3,2,0,(-1:Int)],[(-1:Int),3,1,0]] mw F)) ?_;refine pt ?_;refine mq ?_;refine cD (s:=92) rfl (λhb=>?_) (λhb=>?_)
           .replace h:=eU (Ld hb) h;refine gm ?_;refine ga (bb (t:=Ti) [(.const (.int .i64 (0)),_)] [0] rfl rfl dA (.cons rfl .int .nil) rfl rfl) ?_;refine gb (bb (t:=Ti) [(.const (.int .i64 (0)),_),(.const (.int .i64 (1)),_)] [0,1] rfl rfl dA (.cons rfl .int (.cons rfl .int .nil)) rfl rfl) ?_;refine ga (bb (t:=Ti) [(.const (.int .i64 (1)),_)] [1] rfl rfl dA (.cons rfl .int .nil) rfl rfl) ?_;refine gc (bb (t:=Tl) [(.tmp 94,_),(.tmp 95,_),(.tmp 96,_)] [[0],[0,1],[1]] rfl rfl oz (.cons rfl .rep (.cons rfl .rep (.cons rfl .rep .nil))) rfl rfl) ?_;obtain⟨mc,E,h⟩:=aa h;refine gb (av [.tmp 93,.tmp 97] rfl rfl OX rfl (lW k r4.1 [[0],[0,1],[1]] mc E)) ?_;refine pt ?_;refine mq ?_;refine cD (s:=100) rfl (λhb=>?_) (λhb=>?_)
            .replace h:=eU (Ld hb) h;refine gm ?_;refine gc (bb (t:=Ti) [(.const (.int .i64 (0)),_),(.const (.int .i64 (1)),_),(.const (.int .i64 (3)),_)] [0,1,3] rfl rfl dA (.cons rfl .int (.cons rfl .int (.cons rfl .int .nil))) rfl rfl) ?_;obtain⟨gw,D,h⟩:=aa h;refine gb (av [.tmp 101,.tmp 102] rfl rfl MO rfl (jL k r9.1 [0,1,3] gw D)) ?_;refine pt ?_;refine mq ?_;refine cD (s:=105) rfl (λhb=>?_) (λhb=>?_)
             .replace h:=eU (Ld hb) h;refine gm ?_;refine gb (bb (t:=Ti) [(.const (.int .i64 (1)),_),(.const (.int .i64 (2)),_)] [1,2] rfl rfl dA (.cons rfl .int (.cons rfl .int .nil)) rfl rfl) ?_;obtain⟨j,y,h⟩:=aa h;refine gb (av [.tmp 106,.tmp 107] rfl rfl MO rfl (jL k l.1 [1,2] j y)) ?_;refine pt ?_;refine aq (nl ?_);exact jz ((),j) h []
             .replace h:=c6 (Le hb) h;iterate 3 refine gn ?_
              refine pf ?_;refine aq (nl ?_);exact jz ((),false) h []
            .replace h:=c6 (Le hb) h;iterate 3 refine gn ?_
             refine pf ?_;refine mq ?_;iterate 3 refine gn ?_
             refine pf ?_;refine aq (nl ?_);exact jz ((),false) h []
           .replace h:=c6 (Le hb) h;iterate 6 refine gn ?_
            refine pf ?_;refine mq ?_;iterate 3 refine gn ?_
            refine pf ?_;refine mq ?_;iterate 3 refine gn ?_
            refine pf ?_;refine aq (nl ?_);exact jz ((),false) h []
          .replace h:=c6 (uG hb) h;iterate 8 refine gn ?_
           refine pf ?_;refine mq ?_;iterate 6 refine gn ?_
           refine pf ?_;refine mq ?_;iterate 3 refine gn ?_
           refine pf ?_;refine mq ?_;iterate 3 refine gn ?_
           refine pf ?_;refine aq (nl ?_);exact jz ((),false) h []
         .replace h:=c6 (uG hb) h;iterate 2 refine gn ?_
          refine pf ?_;refine mq ?_;iterate 8 refine gn ?_
          refine pf ?_;refine mq ?_;iterate 6 refine gn ?_
          refine pf ?_;refine mq ?_;iterate 3 refine gn ?_
          refine pf ?_;refine mq ?_;iterate 3 refine gn ?_
          refine pf ?_;refine aq (nl ?_);exact jz ((),false) h []
        .replace h:=c6 (uG hb) h;iterate 2 refine gn ?_
         refine pf ?_;refine mq ?_;iterate 2 refine gn ?_
         refine pf ?_;refine mq ?_;iterate 8 refine gn ?_
         refine pf ?_;refine mq ?_;iterate 6 refine gn ?_
         refine pf ?_;refine mq ?_;iterate 3 refine gn ?_
         refine pf ?_;refine mq ?_;iterate 3 refine gn ?_
         refine pf ?_;refine aq (nl ?_);exact jz ((),false) h []
       .replace h:=c6 (uG hb) h;iterate 3 refine gn ?_
        refine pf ?_;refine mq ?_;iterate 2 refine gn ?_
        refine pf ?_;refine mq ?_;iterate 2 refine gn ?_
        refine pf ?_;refine mq ?_;iterate 8 refine gn ?_
        refine pf ?_;refine mq ?_;iterate 6 refine gn ?_
        refine pf ?_;refine mq ?_;iterate 3 refine gn ?_
        refine pf ?_;refine mq ?_;iterate 3 refine gn ?_
        refine pf ?_;refine aq (nl ?_);exact jz ((),false) h []
      .replace h:=c6 (uG hb) h;iterate 2 refine gn ?_
       refine pf ?_;refine mq ?_;iterate 3 refine gn ?_
       refine pf ?_;refine mq ?_;iterate 2 refine gn ?_
       refine pf ?_;refine mq ?_;iterate 2 refine gn ?_
       refine pf ?_;refine mq ?_;iterate 8 refine gn ?_
       refine pf ?_;refine mq ?_;iterate 6 refine gn ?_
       refine pf ?_;refine mq ?_;iterate 3 refine gn ?_
       refine pf ?_;refine mq ?_;iterate 3 refine gn ?_
       refine pf ?_;refine aq (nl ?_);exact jz ((),false) h []
     .replace h:=c6 (uG hb) h;iterate 2 refine gn ?_
      refine pf ?_;refine mq ?_;iterate 2 refine gn ?_
      refine pf ?_;refine mq ?_;iterate 3 refine gn ?_
      refine pf ?_;refine mq ?_;iterate 2 refine gn ?_
      refine pf ?_;refine mq ?_;iterate 2 refine gn ?_
      refine pf ?_;refine mq ?_;iterate 8 refine gn ?_
      refine pf ?_;refine mq ?_;iterate 6 refine gn ?_
      refine pf ?_;refine mq ?_;iterate 3 refine gn ?_
      refine pf ?_;refine mq ?_;iterate 3 refine gn ?_
      refine pf ?_;refine aq (nl ?_);exact jz ((),false) h []
    .replace h:=c6 (uG hb) h;iterate 2 refine gn ?_
     refine pf ?_;refine mq ?_;iterate 2 refine gn ?_
     refine pf ?_;refine mq ?_;iterate 2 refine gn ?_
     refine pf ?_;refine mq ?_;iterate 3 refine gn ?_
     refine pf ?_;refine mq ?_;iterate 2 refine gn ?_
     refine pf ?_;refine mq ?_;iterate 2 refine gn ?_
     refine pf ?_;refine mq ?_;iterate 8 refine gn ?_
     refine pf ?_;refine mq ?_;iterate 6 refine gn ?_
     refine pf ?_;refine mq ?_;iterate 3 refine gn ?_
     refine pf ?_;refine mq ?_;iterate 3 refine gn ?_
     refine pf ?_;refine aq (nl ?_);exact jz ((),false) h []
   .replace h:=c6 (uG hb) h;iterate 2 refine gn ?_
    refine pf ?_;refine mq ?_;iterate 2 refine gn ?_
    refine pf ?_;refine mq ?_;iterate 2 refine gn ?_
    refine pf ?_;refine mq ?_;iterate 2 refine gn ?_
    refine pf ?_;refine mq ?_;iterate 3 refine gn ?_
    refine pf ?_;refine mq ?_;iterate 2 refine gn ?_
    refine pf ?_;refine mq ?_;iterate 2 refine gn ?_
    refine pf ?_;refine mq ?_;iterate 8 refine gn ?_
    refine pf ?_;refine mq ?_;iterate 6 refine gn ?_
    refine pf ?_;refine mq ?_;iterate 3 refine gn ?_
    refine pf ?_;refine mq ?_;iterate 3 refine gn ?_
    refine pf ?_;refine aq (nl ?_);exact jz ((),false) h []
  .replace h:=c6 (uG hb) h;iterate 2 refine gn ?_
   refine pf ?_;refine mq ?_;iterate 2 refine gn ?_
   refine pf ?_;refine mq ?_;iterate 2 refine gn ?_
   refine pf ?_;refine mq ?_;iterate 2 refine gn ?_
   refine pf ?_;refine mq ?_;iterate 2 refine gn ?_
   refine pf ?_;refine mq ?_;iterate 3 refine gn ?_
   refine pf ?_;refine mq ?_;iterate 2 refine gn ?_
   refine pf ?_;refine mq ?_;iterate 2 refine gn ?_
   refine pf ?_;refine mq ?_;iterate 8 refine gn ?_
   refine pf ?_;refine mq ?_;iterate 6 refine gn ?_
   refine pf ?_;refine mq ?_;iterate 3 refine gn ?_
   refine pf ?_;refine mq ?_;iterate 3 refine gn ?_
   refine pf ?_;refine aq (nl ?_);exact jz ((),false) h []
 .
  refine ay ?_;cases h;exact ra
def cQ(k:Nat)(r3:ah×bP)(r5:(List Int)×bP)(r6:(List Int)×bP):Nat->((List Int)×Int)->Option (List Int)
 |0,_=>none
 |n+1,y9=>
  if y9.2 < r3.1.1 then((((((ru k r5.1 y9.2).bind λl=>
  if 0≤l then(some true) else((ru k r6.1 y9.2).bind λj=>
  some (decide (0≤j)))):Option (Bool)).bind λe=>
  if e=true then((cO (cE (length y9.1+length [y9.2]))).bind λ_=>
  some (y9.1++[y9.2])) else(some y9.1)):Option ((List Int))).bind λh=>
  (ck (y9.2+1)).bind λc=>
  cQ k r3 r5 r6 n (h,c)) else(some y9.1)
def cy(k:Nat)(r3:ah×bP)(l:(List (List Int))×Int)(j:(List (List Int))×Int)(h:(List (List Int))×Int)(e:Int):Nat->Int->Option (Except Bool Unit)
 |0,_=>none
 |n+1,c=>
  if c < r3.1.1 then((aU h.1 e).bind λE=>
  (aU E c).bind λD=>
  (aU l.1 e).bind λy=>
  (aU y c).bind λx=>
  (aU j.1 e).bind λu=>
  (aU u c).bind λs=>
  if¬(D=(mz x s)) then(some (.error false)) else((ck (c+1)).bind λr=>
  cy k r3 l j h e n r)) else(some (.ok ()))
def cz(k:Nat)(r3:ah×bP)(l:(List (List Int))×Int)(j:(List (List Int))×Int)(h:(List (List Int))×Int):Nat->Int->Option (Except Bool Unit)
 |0,_=>none
 |n+1,c=>
  if c < (h.1.length:Int) then(bE (α:=Unit) (cy k r3 l j h c k 0) (λe=>some (.error e)) λ_=>
  (ck (c+1)).bind λr=>
  cz k r3 l j h n r) else(some (.ok ()))
def gg(k:Nat)(a0:(List Int)):Option Bool:=
 (lw k a0).bind λr1=>
 (ia k (r1.1,r1.2.1,r1.2.2) 5 6).bind λr3=>
 (ib k (r3.2.1,r3.2.2.1,r3.2.2.2) r3.1.1).bind λr5=>
 (ib k (r5.2.1,r5.2.2.1,r5.2.2.2) r3.1.1).bind λr6=>
 ((cQ k r3 r5 r6 k (([]:(List Int)),0)):Option ((List Int))).bind λx7=>
 (fq k (r3.1.1,r3.1.2.1,r3.1.2.2.1,r3.1.2.2.2.1,r3.1.2.2.2.2.1,[]) r5.1).bind λh=>
 (fq k (r3.1.1,r3.1.2.1,r3.1.2.2.1,r3.1.2.2.2.1,r3.1.2.2.2.2.1,[]) r6.1).bind λe=>
 (fq k (r3.1.1,r3.1.2.1,r3.1.2.2.1,r3.1.2.2.2.1,r3.1.2.2.2.2.1,[]) x7).bind λc=>
 ((if¬(h.2=0) then(some true) else(if¬(e.2=0) then(some true) else(if¬(c.2=0) then(some true) else((iS k (r3.1.1,r3.1.2.1,r3.1.2.2.1,r3.1.2.2.2.1,r3.1.2.2.2.2.1,[]) h.1).bind λs=>
 if¬(s=true) then(some true) else((iS k (r3.1.1,r3.1.2.1,r3.1.2.2.1,r3.1.2.2.2.1,r3.1.2.2.2.2.1,[]) e.1).bind λr=>
 if¬(r=true) then(some true) else((iS k (r3.1.1,r3.1.2.1,r3.1.2.2.1,r3.1.2.2.2.1,r3.1.2.2.2.2.1,[]) c.1).bind λn=>
 some (!n))))))):Option (Bool)).bind λj=>
 if j=true then(some false) else(bE (α:=Unit) (cz k r3 h e c k 0) (some) λ_=>
 (qi k).bind λl=>
 some l)
theorem oD(k:Nat)(a0:(List Int))(r:Bool)(h:gg k a0=some r):
 bX (dF Tryz.prog) 8 [.rep Tl a0] [] (λ_:Unit=>(bI [.eq (.bool r)],[])):=by
 unfold gg at h
 replace h:=bg h
 refine bX.of 131 Tryz.func8 rfl Tryz.ntmps8 rfl λS w0=>?_
 refine sr ?_
 refine cq ?_
 refine nt ?_
 refine sr ?_
 refine mq ?_
 obtain⟨r1,Tf,h⟩:=aa h
 have To:=tz k a0 r1 Tf
 refine aY rfl rfl rfl (av [.tmp 17] rfl rfl Q7 rfl To) ⟨rfl,trivial⟩ λb2=>?_
 refine aq ?_
 refine nt ?_
 refine sr ?_
 refine mq ?_
 obtain⟨r3,Td,h⟩:=aa h
 have Tn:=tA k (r1.1,r1.2.1,r1.2.2) b2 5 6 r3 Td
 refine kc (av [.tmp 19,.const (.int .i64 (5)),.const (.int .i64 (6))] rfl rfl Q2 rfl Tn) ?_
 refine aY rfl rfl rfl (bz rfl Cj JL) trivial λb4=>?_
 refine aS rfl rfl (aO rfl iM trivial rfl rfl) ⟨rfl,rfl,trivial⟩ ?_
 refine nt ?_
 refine ak ?_
 refine cP ?_
 refine dm ?_
 refine da (aG rfl fH) ?_
 refine ea 0 (ax rfl cG o9 rfl) ?_
 obtain⟨r5,Ta,h⟩:=aa h
 have Tm:=nC k (r3.2.1,r3.2.2.1,r3.2.2.2) b2 r3.1.1 r5 Ta
 refine Ce 1 rfl rfl rfl rfl (av [.tmp 21,.tmp 23] rfl rfl O1 rfl Tm) ⟨rfl,rfl,trivial⟩ ?_
 refine dm ?_
 refine da (aG rfl fH) ?_
 refine ea 0 (ax rfl cG o9 rfl) ?_
 refine Cf (Δ':=[.obj b4 26 (.agg (.pair (I r3.1.1) (.pair (I r3.1.2.1) (.pair (I r3.1.2.2.1) (.pair (I r3.1.2.2.2.1) (.pair (.rep (.slice (.slice Tl)) r3.1.2.2.2.2.1) (.eq (.slice none 0 0)))))))),.obj b2 69 (.agg (.pair (.rep Tl r5.2.1) (.pair (I r5.2.2.1) (.eq (.int .u64 r5.2.2.2)))))]) (by kernel_rfl) ew (by kernel_rfl) ?_
 obtain⟨r6,S9,h⟩:=aa h
 have Tj:=nC k (r5.2.1,r5.2.2.1,r5.2.2.2) b2 r3.1.1 r6 S9
 refine fr 1 ?_
 refine kb (av [.tmp 25,.tmp 27] rfl rfl O1 rfl Tj) ?_
 refine aq ?_
 refine aq ?_
 refine nt ?_
 refine sr ?_
 refine cq ?_
 refine nt ?_
 refine aH (Z:=Value) (α:=(List Int)) (λz8 x7=>[(4,Pt b4),(5,.rep Tl r5.1),(6,.rep Tl r6.1),(7,.eq z8)]) (λz8 x7=>[.obj b4 26 (.agg (.pair (I r3.1.1) (.pair (I r3.1.2.1) (.pair (I r3.1.2.2.1) (.pair (I r3.1.2.2.2.1) (.pair (.rep (.slice (.slice Tl)) r3.1.2.2.2.2.1) (.eq (.slice none 0 0)))))))),.sl z8 3 Ti x7]) h (λK h=>?_) (λz8 x7 h=>?_)
 .
  refine sr (cq (nt (aj ?_)));refine iL (SE.nil 3 Ti) ?_;refine aF (λu y9=>[(4,Pt b4),(5,.rep Tl r5.1),(6,.rep Tl r6.1),(7,.eq u),(8,I y9.2)]) (λu y9=>[.obj b4 26 (.agg (.pair (I r3.1.1) (.pair (I r3.1.2.1) (.pair (I r3.1.2.2.1) (.pair (I r3.1.2.2.2.1) (.pair (.rep (.slice (.slice Tl)) r3.1.2.2.2.2.1) (.eq (.slice none 0 0)))))))),.sl u 3 Ti y9.1]) (cQ k r3 r5 r6) k (.slice none 0 0) (([]:(List Int)),0) (λ_=>rfl) h (SE.fin [2,0] ⟨rfl,rfl,rfl,rfl,rfl,trivial⟩ rfl) (λn u y9 h=>?_);unfold cQ at h;refine ak (sr (mq ?_));refine fl fH ?_;refine lo cG ?_;refine jb (bJ rfl) ?_;refine nt (ci h (λh=>?_) (λh=>?_))
  .refine sk (aH (Z:=Value) (α:=(List Int)) (λD E=>[(4,Pt b4),(5,.rep Tl r5.1),(6,.rep Tl r6.1),(7,.eq D),(8,I y9.2)]) (λD E=>[.obj b4 26 (.agg (.pair (I r3.1.1) (.pair (I r3.1.2.1) (.pair (I r3.1.2.2.1) (.pair (I r3.1.2.2.2.1) (.pair (.rep (.slice (.slice Tl)) r3.1.2.2.2.2.1) (.eq (.slice none 0 0)))))))),.sl D 3 Ti E]) h (λK h=>?_) (λD E h=>?_))
   .refine aj (aH (Z:=Unit) (α:=Bool) (λgw M=>[(4,Pt b4),(5,.rep Tl r5.1),(6,.rep Tl r6.1),(7,.eq u),(8,I y9.2),(44,.eq (.bool M))]) (λgw M=>[.obj b4 26 (.agg (.pair (I r3.1.1) (.pair (I r3.1.2.1) (.pair (I r3.1.2.2.1) (.pair (I r3.1.2.2.2.1) (.pair (.rep (.slice (.slice Tl)) r3.1.2.2.2.2.1) (.eq (.slice none 0 0)))))))),.sl u 3 Ti y9.1]) h (λK h=>?_) (λgw M h=>?_))
    .refine ab ?_;iterate 2 refine mq ?_
     obtain⟨S7,SR,h⟩:=aa h;refine jb (av [.tmp 35,.tmp 36] rfl rfl O2 rfl (vk k r5.1 y9.2 S7 SR)) ?_;refine jb (jj rfl) ?_;refine mq ?_;refine cD (s:=39) rfl (λhb=>?_) (λhb=>?_)
     .replace h:=eU (uF hb) h;iterate 4 refine gn ?_
      refine pt (nl ?_);exact jz ((),true) h [0,1]
     .replace h:=c6 (uG hb) h;refine gm ?_;refine gm ?_;obtain⟨zz,SQ,h⟩:=aa h;refine gb (av [.tmp 40,.tmp 41] rfl rfl O2 rfl (vk k r6.1 y9.2 zz SQ)) ?_;refine gb (jj rfl) ?_;refine pf (nl ?_);exact jz ((),decide (0≤zz)) h [0,1]
    .refine cv h (λh=>?_) (λh=>?_)
     .refine ab ?_;iterate 2 refine mq ?_
      refine ja (bb (t:=Ti) [(.tmp 46,_)] [y9.2] rfl rfl dA (.cons rfl .int .nil) rfl rfl) ?_;obtain⟨TC,SG,h⟩:=aa h;refine fr 1 ?_;refine dV rfl rfl rfl (cI rfl rfl dA (am SG)) ⟨rfl,rfl,trivial⟩ λSX=>?_;refine aq (aE (bn ?_));exact jz (SX,y9.1++[y9.2]) h [1,0]
     .refine be (bn ?_);exact jz (u,y9.1) h [0,1]
   .refine ab (mq ?_);obtain⟨SV,SD,h⟩:=aa h;refine jb (bA rfl SD) ?_;refine aq (nl ?_);exact jz (D,(E,SV)) h [0,1]
  .refine xa ?_;exact jz (u,y9.1) h [0,1]
 .
  refine sr (lo iM ?_);refine mq ?_;obtain⟨l,SO,h⟩:=aa h;refine jb (bB (N:=[(.tmp 50,.agg (.pair (I r3.1.1) (.pair (I r3.1.2.1) (.pair (I r3.1.2.2.1) (.pair (I r3.1.2.2.2.1) (.pair (.rep (.slice (.slice Tl)) r3.1.2.2.2.2.1) (.eq (.slice none 0 0)))))))),(.tmp 51,.rep Tl r5.1)]) (aV [.tmp 50,.tmp 51] rfl rfl Jn rfl (jd k (r3.1.1,r3.1.2.1,r3.1.2.2.1,r3.1.2.2.2.1,r3.1.2.2.2.2.1,[]) r5.1 l SO)) λ_ _ _ hn=>⟨(aA (t:=au) (x:=(r3.1.1,r3.1.2.1,r3.1.2.2.1,r3.1.2.2.2.1,r3.1.2.2.2.2.1,[])) (.agg (.pair .int (.pair .int (.pair .int (.pair .int (.pair .rep .nil)))))) trivial rfl hn.1),hn.2.1,trivial⟩) ?_;refine mq ?_;refine xr ?_;refine xr ?_;refine aq ?_;refine aq (nt (sr ?_));refine lo iM ?_;refine mq ?_;obtain⟨j,SN,h⟩:=aa h;refine jb (bB (N:=[(.tmp 56,.agg (.pair (I r3.1.1) (.pair (I r3.1.2.1) (.pair (I r3.1.2.2.1) (.pair (I r3.1.2.2.2.1) (.pair (.rep (.slice (.slice Tl)) r3.1.2.2.2.2.1) (.eq (.slice none 0 0)))))))),(.tmp 57,.rep Tl r6.1)]) (aV [.tmp 56,.tmp 57] rfl rfl Jn rfl (jd k (r3.1.1,r3.1.2.1,r3.1.2.2.1,r3.1.2.2.2.1,r3.1.2.2.2.2.1,[]) r6.1 j SN)) λ_ _ _ hn=>⟨(aA (t:=au) (x:=(r3.1.1,r3.1.2.1,r3.1.2.2.1,r3.1.2.2.2.1,r3.1.2.2.2.2.1,[])) (.agg (.pair .int (.pair .int (.pair .int (.pair .int (.pair .rep .nil)))))) trivial rfl hn.1),hn.2.1,trivial⟩) ?_;refine mq ?_;refine xr ?_;refine xr ?_;refine aq ?_;refine aq (nt (sr ?_));refine lo iM ?_;refine mq ?_;refine fr 1 ?_;refine eC (iG [7,63] ⟨rfl,rfl,trivial⟩) ?_;obtain⟨c,SL,h⟩:=aa h;refine jb (bB (N:=[(.tmp 62,.agg (.pair (I r3.1.1) (.pair (I r3.1.2.1) (.pair (I r3.1.2.2.1) (.pair (I r3.1.2.2.2.1) (.pair (.rep (.slice (.slice Tl)) r3.1.2.2.2.2.1) (.eq (.slice none 0 0)))))))),(.tmp 63,.rep Tl x7)]) (aV [.tmp 62,.tmp 63] rfl rfl Jn rfl (jd k (r3.1.1,r3.1.2.1,r3.1.2.2.1,r3.1.2.2.2.1,r3.1.2.2.2.2.1,[]) x7 c SL)) λ_ _ _ hn=>⟨(aA (t:=au) (x:=(r3.1.1,r3.1.2.1,r3.1.2.2.1,r3.1.2.2.2.1,r3.1.2.2.2.2.1,[])) (.agg (.pair .int (.pair .int (.pair .int (.pair .int (.pair .rep .nil)))))) trivial rfl hn.1),hn.2.1,trivial⟩) ?_;refine mq ?_;refine xr ?_;refine xr ?_;refine aq ?_;refine aq (nt (ak ?_));refine aH (Z:=Unit) (α:=Bool) (λY J=>[(4,Pt b4),(9,.rep (.slice Tl) l.1),(11,.rep (.slice Tl) j.1),(13,.rep (.slice Tl) c.1),(94,.eq (.bool J))]) (λY J=>[.obj b4 26 (.agg (.pair (I r3.1.1) (.pair (I r3.1.2.1) (.pair (I r3.1.2.2.1) (.pair (I r3.1.2.2.2.1) (.pair (.rep (.slice (.slice Tl)) r3.1.2.2.2.2.1) (.eq (.slice none 0 0))))))))]) h (λK h=>?_) (λY J h=>?_)
  .refine ab (mq ?_);refine jb (eL rfl) ?_;refine mq ?_;refine cD (s:=69) rfl (λhb=>?_) (λhb=>?_)
   .replace h:=eU (PS hb) h;iterate 2 refine gn ?_
    refine pt ?_;refine mq ?_;iterate 2 refine gn ?_
    refine pt ?_;refine mq ?_;iterate 4 refine gn ?_
    refine pt ?_;refine mq ?_;iterate 4 refine gn ?_
    refine pt ?_;refine mq ?_;iterate 4 refine gn ?_
    refine pt (nl ?_);exact jz ((),true) h [0]
   .replace h:=c6 (IN hb) h;refine gm ?_;refine gb (eL rfl) ?_;refine pf ?_;refine mq ?_;refine cD (s:=73) rfl (λhb=>?_) (λhb=>?_)
    .replace h:=eU (PS hb) h;iterate 2 refine gn ?_
     refine pt ?_;refine mq ?_;iterate 4 refine gn ?_
     refine pt ?_;refine mq ?_;iterate 4 refine gn ?_
     refine pt ?_;refine mq ?_;iterate 4 refine gn ?_
     refine pt (nl ?_);exact jz ((),true) h [0]
    .replace h:=c6 (IN hb) h;refine gm ?_;refine gb (eL rfl) ?_;refine pf ?_;refine mq ?_;refine cD (s:=77) rfl (λhb=>?_) (λhb=>?_)
     .replace h:=eU (PS hb) h;iterate 4 refine gn ?_
      refine pt ?_;refine mq ?_;iterate 4 refine gn ?_
      refine pt ?_;refine mq ?_;iterate 4 refine gn ?_
      refine pt (nl ?_);exact jz ((),true) h [0]
     .replace h:=c6 (IN hb) h;refine lH rfl rfl rfl rfl rfl rfl (ax rfl iM (uc) rfl) ⟨rfl,trivial⟩ ?_;refine gm ?_;obtain⟨S5,SK,h⟩:=aa h;refine gb (bB (N:=[(.tmp 78,.agg (.pair (I r3.1.1) (.pair (I r3.1.2.1) (.pair (I r3.1.2.2.1) (.pair (I r3.1.2.2.2.1) (.pair (.rep (.slice (.slice Tl)) r3.1.2.2.2.2.1) (.eq (.slice none 0 0)))))))),(.tmp 79,.rep (.slice Tl) l.1)]) (av [.tmp 78,.tmp 79] rfl rfl MP rfl (my k (r3.1.1,r3.1.2.1,r3.1.2.2.1,r3.1.2.2.2.1,r3.1.2.2.2.2.1,[]) l.1 S5 SK)) λ_ _ _ hn=>⟨(aA (t:=au) (x:=(r3.1.1,r3.1.2.1,r3.1.2.2.1,r3.1.2.2.2.1,r3.1.2.2.2.2.1,[])) (.agg (.pair .int (.pair .int (.pair .int (.pair .int (.pair .rep .nil)))))) trivial rfl hn.1),hn.2.1,trivial⟩) ?_;refine ga (hH rfl) ?_;refine pf ?_;refine mq ?_;refine cD (s:=83) rfl (λhb=>?_) (λhb=>?_)
      .replace h:=eU (wn hb) h;iterate 4 refine gn ?_
       refine pt ?_;refine mq ?_;iterate 4 refine gn ?_
       refine pt (nl ?_);exact jz ((),true) h [0]
      .replace h:=c6 (pX hb) h;refine lH rfl rfl rfl rfl rfl rfl (ax rfl iM (uc) rfl) ⟨rfl,trivial⟩ ?_;refine gm ?_;obtain⟨SZ,SJ,h⟩:=aa h;refine gb (bB (N:=[(.tmp 84,.agg (.pair (I r3.1.1) (.pair (I r3.1.2.1) (.pair (I r3.1.2.2.1) (.pair (I r3.1.2.2.2.1) (.pair (.rep (.slice (.slice Tl)) r3.1.2.2.2.2.1) (.eq (.slice none 0 0)))))))),(.tmp 85,.rep (.slice Tl) j.1)]) (av [.tmp 84,.tmp 85] rfl rfl MP rfl (my k (r3.1.1,r3.1.2.1,r3.1.2.2.1,r3.1.2.2.2.1,r3.1.2.2.2.2.1,[]) j.1 SZ SJ)) λ_ _ _ hn=>⟨(aA (t:=au) (x:=(r3.1.1,r3.1.2.1,r3.1.2.2.1,r3.1.2.2.2.1,r3.1.2.2.2.2.1,[])) (.agg (.pair .int (.pair .int (.pair .int (.pair .int (.pair .rep .nil)))))) trivial rfl hn.1),hn.2.1,trivial⟩) ?_;refine ga (hH rfl) ?_;refine pf ?_;refine mq ?_;refine cD (s:=89) rfl (λhb=>?_) (λhb=>?_)
       .replace h:=eU (wn hb) h;iterate 4 refine gn ?_
        refine pt (nl ?_);exact jz ((),true) h [0]
       .replace h:=c6 (pX hb) h;refine lH rfl rfl rfl rfl rfl rfl (ax rfl iM (uc) rfl) ⟨rfl,trivial⟩ ?_;refine gm ?_;obtain⟨qt,SI,h⟩:=aa h;refine gb (bB (N:=[(.tmp 90,.agg (.pair (I r3.1.1) (.pair (I r3.1.2.1) (.pair (I r3.1.2.2.1) (.pair (I r3.1.2.2.2.1) (.pair (.rep (.slice (.slice Tl)) r3.1.2.2.2.2.1) (.eq (.slice none 0 0)))))))),(.tmp 91,.rep (.slice Tl) c.1)]) (av [.tmp 90,.tmp 91] rfl rfl MP rfl (my k (r3.1.1,r3.1.2.1,r3.1.2.2.1,r3.1.2.2.2.1,r3.1.2.2.2.2.1,[]) c.1 qt SI)) λ_ _ _ hn=>⟨(aA (t:=au) (x:=(r3.1.1,r3.1.2.1,r3.1.2.2.1,r3.1.2.2.2.1,r3.1.2.2.2.2.1,[])) (.agg (.pair .int (.pair .int (.pair .int (.pair .int (.pair .rep .nil)))))) trivial rfl hn.1),hn.2.1,trivial⟩) ?_;refine ga (hH rfl) ?_;refine pf (nl ?_);exact jz ((), !qt) h [0]
  .refine cv h (λh=>?_) (λh=>?_)
   .refine sr (cq (nt (rx ?_)));cases h;exact ra
   .refine sk (dw (Z:=Unit) (α:=Unit) (λX mw=>[]) (λX mw=>[]) (λe=>e=r) h (λe h=>Option.some.inj h) (λK hR h=>?_) (λX mw h=>?_))
    .refine sr (cq (nt (aj ?_)));refine aF (λU y=>[(4,Pt b4),(9,.rep (.slice Tl) l.1),(11,.rep (.slice Tl) j.1),(13,.rep (.slice Tl) c.1),(15,I y)]) (λU y=>[.obj b4 26 (.agg (.pair (I r3.1.1) (.pair (I r3.1.2.1) (.pair (I r3.1.2.2.1) (.pair (I r3.1.2.2.2.1) (.pair (.rep (.slice (.slice Tl)) r3.1.2.2.2.2.1) (.eq (.slice none 0 0))))))))]) (cz k r3 l j c) k () 0 (λ_=>rfl) h (SE.fin [0] ⟨rfl,rfl,rfl,rfl,rfl,trivial⟩ rfl) (λn U y h=>?_);unfold cz at h;refine ak (sr ?_);iterate 2 refine mq ?_
     refine ol rW ?_;refine jb (bJ rfl) ?_;refine nt (ci h (λh=>?_) (λh=>?_))
     .refine sk (dw (Z:=Unit) (α:=Unit) (λQ mc=>[(4,Pt b4),(9,.rep (.slice Tl) l.1),(11,.rep (.slice Tl) j.1),(13,.rep (.slice Tl) c.1),(15,I y)]) (λQ mc=>[.obj b4 26 (.agg (.pair (I r3.1.1) (.pair (I r3.1.2.1) (.pair (I r3.1.2.2.1) (.pair (I r3.1.2.2.2.1) (.pair (.rep (.slice (.slice Tl)) r3.1.2.2.2.2.1) (.eq (.slice none 0 0))))))))]) (λe=>e=r) h (λe h=>hR e h) (λK hR h=>?_) (λQ mc h=>?_))
      .refine aj (sr (cq (nt (aj ?_))));refine aF (λO F=>[(4,Pt b4),(9,.rep (.slice Tl) l.1),(11,.rep (.slice Tl) j.1),(13,.rep (.slice Tl) c.1),(15,I y),(16,I F)]) (λO F=>[.obj b4 26 (.agg (.pair (I r3.1.1) (.pair (I r3.1.2.1) (.pair (I r3.1.2.2.1) (.pair (I r3.1.2.2.2.1) (.pair (.rep (.slice (.slice Tl)) r3.1.2.2.2.2.1) (.eq (.slice none 0 0))))))))]) (cy k r3 l j c y) k () 0 (λ_=>rfl) h (SE.fin [0] ⟨rfl,rfl,rfl,rfl,rfl,rfl,trivial⟩ rfl) (λn O F h=>?_);unfold cy at h;refine ak (sr (mq ?_));refine fl fH ?_;refine lo cG ?_;refine jb (bJ rfl) ?_;refine nt (ci h (λh=>?_) (λh=>?_))
       .refine sk (ak (aj (ak (cP ?_))));refine dm ?_;refine dm ?_;obtain⟨TB,SC,h⟩:=aa h;refine db (aX (t:=Tl) rfl rW ii SC) ?_;refine da (ap (t:=Tl) rfl ii rfl) ?_;refine dm ?_;obtain⟨TA,SB,h⟩:=aa h;refine db (aX (t:=Ti) rfl iE cG SB) ?_;refine da (ap (t:=Ti) rfl cG rfl) ?_;refine dm ?_;refine dm ?_;obtain⟨Tz,SA,h⟩:=aa h;refine db (aX (t:=Tl) rfl rW ii SA) ?_;refine da (ap (t:=Tl) rfl ii rfl) ?_;refine dm ?_;obtain⟨Tv,Sz,h⟩:=aa h;refine db (aX (t:=Ti) rfl iE cG Sz) ?_;refine da (ap (t:=Ti) rfl cG rfl) ?_;refine dm ?_;refine dm ?_;obtain⟨Tu,Sr,h⟩:=aa h;refine db (aX (t:=Tl) rfl rW ii Sr) ?_;refine da (ap (t:=Tl) rfl ii rfl) ?_;refine dm ?_;obtain⟨Tt,Sl,h⟩:=aa h;refine db (aX (t:=Ti) rfl iE cG Sl) ?_;refine da (ap (t:=Ti) rfl cG rfl) ?_;refine db (AX rfl rfl) ?_;refine df ew ?_;refine jb (eL rfl) ?_;refine nt (cn h (λh=>?_) (λh=>?_))
        .refine sr (cq (nt (ay (br (bD (br (bD (bC ?_))))))));obtain rfl:=hR _ h;exact ra
        .refine be (aR (tn (ab (mq ?_))));obtain⟨SU,Sj,h⟩:=aa h;refine jb (bA rfl Sj) ?_;refine aq (nl ?_);exact jz ((),SU) h [0]
       .refine fP (bQ (bQ (c8 (bn ?_))));exact jz ((),()) h [0]
      .refine ab (mq ?_);obtain⟨SS,Si,h⟩:=aa h;refine jb (bA rfl Si) ?_;refine aq (nl ?_);exact jz ((),SS) h [0]
     .refine xa ?_;exact jz ((),()) h []
    .refine sr ?_;obtain⟨SY,SH,h⟩:=aa h;refine bT rfl (aV [] rfl rfl Q4 rfl (yo k SY SH)) trivial ?_;refine aq (nt (ay ?_));cases h;exact ra
