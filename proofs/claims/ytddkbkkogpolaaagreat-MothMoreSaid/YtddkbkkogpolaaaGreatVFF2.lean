import Derived.Test.YtddkbkkogpolaaaGreatVFB11
open Nat
open List hiding mem_of_getElem?
open Array hiding mem_of_getElem? mk
set_option linter.unusedSimpArgs false
set_option linter.unusedVariables false
set_option maxRecDepth 4000
set_option maxHeartbeats 1000000
namespace Go.Proofs.YtddkbkkogpolaaaGreat
open K Go Go.Proofs
def fB(k:Nat)(r4:(List Int)×bD):Nat->((List Int)×Int×Int×Int×(List (List Int)))->Option ((List Int)×Int×Int×(List (List Int)))
 |0,_=>none
 |n+1,y7=>
  if y7.2.2.2.1 < (r4.1.length:Int) then((((dS k (y7.1,y7.2.1,y7.2.2.1) 5).bind λc=>
  if c.1=true then(some (c.2.1,c.2.2.1,c.2.2.2,y7.2.2.2.2)) else((ck ((y7.2.2.2.2.length:Int) - 1)).bind λr=>
  (bR k (c.2.1,c.2.2.1,c.2.2.2) r).bind λe=>
  (aV y7.2.2.2.2 e.1).bind λj=>
  (aV r4.1 y7.2.2.2.1).bind λh=>
  (cH (bM (length j+length [h]))).bind λ_=>
  some (e.2.1,e.2.2.1,e.2.2.2,List.set y7.2.2.2.2 (Int.toNat e.1) (j++[h])))):Option ((List Int)×Int×Int×(List (List Int)))).bind λx9=>
  (ck (y7.2.2.2.1+1)).bind λl=>
  fB k r4 n (x9.1,x9.2.1,x9.2.2.1,l,x9.2.2.2)) else(some (y7.1,y7.2.1,y7.2.2.1,y7.2.2.2.2))
def jL(k:Nat)(a0:bD)(a1:Int):Option ((List (List Int))×bD):=
 (fP k (a0.1,a0.2.1,a0.2.2) 1 3).bind λr1=>
 (cH (0≤r1.1/\bM (Int.toNat r1.1))).bind λ_=>
 (gU k (r1.2.1,r1.2.2.1,r1.2.2.2) a1).bind λr4=>
 ((fB k r4 k (r4.2.1,r4.2.2.1,r4.2.2.2,0,List.replicate (Int.toNat r1.1) ([]:(List Int)))):Option ((List Int)×Int×Int×(List (List Int)))).bind λx5=>
 some (x5.2.2.2,(x5.1,x5.2.1,x5.2.2.1))
theorem uJ(k:Nat)(a0:bD)(c:Nat)(a1:Int)(r:(List (List Int))×bD)(h:jL k a0 a1=some r):
 du Tryz.prog 59 [Pt c,I a1] [.obj c 71 (.agg (.pair (.rep Tl a0.1) (.pair (I a0.2.1) (.eq (.int .u64 a0.2.2)))))] (λ_:Unit=>(bJ [.rep (.slice Tl) r.1],[.obj c 71 (.agg (.pair (.rep Tl r.2.1) (.pair (I r.2.2.1) (.eq (.int .u64 r.2.2.2)))))])):=by
 unfold jL at h
 replace h:=bb h
 refine du.of 42 Tryz.func59 rfl Tryz.ntmps59 rfl λS w0=>?_
 refine sr ?_
 refine cq ?_
 refine nt ?_
 refine sr ?_
 refine mq ?_
 obtain⟨r1,UM,h⟩:=aa h
 have UO:=iY k (a0.1,a0.2.1,a0.2.2) c 1 3 r1 UM
 refine kc (ay [.tmp 9,.const (.int .i64 (1)),.const (.int .i64 (3))] rfl rfl Ll rfl UO) ?_
 obtain⟨u2,U,h⟩:=aa h
 refine aQ rfl rfl rfl (Oi (t:=.val) (d:=.slice none 0 0) rfl pw PM (ao U).1 (ao U).2) ⟨rfl,rfl,trivial⟩ λv3=>?_
 refine eJ (IS (F:=[.obj c 71 (.agg (.pair (.rep Tl r1.2.1) (.pair (I r1.2.2.1) (.eq (.int .u64 r1.2.2.2)))))])) ?_
 refine aq ?_
 refine nt ?_
 refine sr ?_
 iterate 2 refine mq ?_
 obtain⟨r4,UL,h⟩:=aa h
 have UN:=qW k (r1.2.1,r1.2.2.1,r1.2.2.2) c a1 r4 UL
 refine kb (ay [.tmp 12,.tmp 13] rfl rfl SX rfl UN) ?_
 refine aq ?_
 refine nt ?_
 refine aN (Z:=(Value×(Nat->Value))) (α:=(List Int)×Int×Int×(List (List Int))) (λz6 x5=>[(5,.eq z6.1)]) (λz6 x5=>[.obj c 71 (.agg (.pair (.rep Tl x5.1) (.pair (I x5.2.1) (.eq (.int .u64 x5.2.2.1)))))]++xG 22 z6 x5.2.2.2) h (λK h=>?_) (λz6 x5 h=>?_)
 .
  refine sr (cq (nt (ak ?_)));refine aM (Z:=(Value×(Nat->Value))) (α:=(List Int)×Int×Int×Int×(List (List Int))) (λz8 y7=>[(0,Pt c),(5,.eq z8.1),(6,.rep Tl r4.1),(7,I y7.2.2.2.1)]) (λz8 y7=>[.obj c 71 (.agg (.pair (.rep Tl y7.1) (.pair (I y7.2.1) (.eq (.int .u64 y7.2.2.1)))))]++xG 22 z8 y7.2.2.2.2) (fB k r4) k (v3,λ_=>.slice none 0 0) (r4.2.1,r4.2.2.1,r4.2.2.2,0,List.replicate (Int.toNat r1.1) ([]:(List Int))) (λ_=>rfl) h (kJ [.obj c 71 (.agg (.pair (.rep Tl r4.2.1) (.pair (I r4.2.2.1) (.eq (.int .u64 r4.2.2.2)))))] (xG 22 (v3,λ_=>.slice none 0 0) (List.replicate (Int.toNat r1.1) ([]:(List Int)))) [0] ⟨rfl,rfl,rfl,rfl,trivial⟩ rfl) (λn z8 y7 h=>?_);unfold fB at h;refine aj (sr ?_);iterate 2 refine mq ?_
  refine ol jr ?_;refine jb (bO rfl) ?_;refine nt (ci h (λh=>?_) (λh=>?_))
  .refine sk (aN (Z:=(Value×(Nat->Value))) (α:=(List Int)×Int×Int×(List (List Int))) (λy x9=>[(0,Pt c),(5,.eq y.1),(6,.rep Tl r4.1),(7,I y7.2.2.2.1)]) (λy x9=>[.obj c 71 (.agg (.pair (.rep Tl x9.1) (.pair (I x9.2.1) (.eq (.int .u64 x9.2.2.1)))))]++xG 22 y x9.2.2.2) h (λK h=>?_) (λy x9 h=>?_))
   .refine ak (aj (sr (mq ?_)));obtain⟨j,gw,h⟩:=aa h;refine kb (ay [.tmp 21,.const (.int .i64 (5))] rfl rfl Ii rfl (fD k (y7.1,y7.2.1,y7.2.2.1) c 5 j gw)) ?_;refine nt (cv h (λh=>?_) (λh=>?_))
    .refine hH (cC (dO (au ?_)));exact vn (z8,(j.2.1,j.2.2.1,j.2.2.2,y7.2.2.2.2)) h (kJ [.obj c 71 (.agg (.pair (.rep Tl j.2.1) (.pair (I j.2.2.1) (.eq (.int .u64 j.2.2.2)))))] (xG 22 z8 y7.2.2.2.2) [0] ⟨rfl,rfl,rfl,rfl,trivial⟩ rfl)
    .refine sk (sr ?_);iterate 2 refine mq ?_
     refine I1 (pre:=[.obj c 71 (.agg (.pair (.rep Tl j.2.1) (.pair (I j.2.2.1) (.eq (.int .u64 j.2.2.2)))))]) rfl rfl rfl rfl rfl qs ⟨rfl,trivial⟩ ?_;obtain⟨mw,Q,h⟩:=aa h;refine jb (eE rfl Q) ?_;obtain⟨e,Y,h⟩:=aa h;refine kb (ay [.tmp 23,.tmp 26] rfl rfl tu rfl (bW k (j.2.1,j.2.2.1,j.2.2.2) c mw e Y)) ?_;refine aq (nt ?_);obtain⟨x,s,h⟩:=aa h;refine iJ (Fe (pre:=[.obj c 71 (.agg (.pair (.rep Tl e.2.1) (.pair (I e.2.2.1) (.eq (.int .u64 e.2.2.2)))))]) (Dl s).2) ?_;obtain⟨u,O,h⟩:=aa h;obtain⟨u16,X,h⟩:=aa h;refine I4 (Δ:=[.sl (z8.2 (Int.toNat e.1)) 3 Ti x,.sl z8.1 22 .val (nO z8.2 0 y7.2.2.2.2),.obj c 71 (.agg (.pair (.rep Tl e.2.1) (.pair (I e.2.2.1) (.eq (.int .u64 e.2.2.2)))))]) (F:=(nG z8.2 0 y7.2.2.2.2).eraseIdx (Int.toNat e.1)) (Z:=Value) (λi=>[(0,Pt c),(5,.eq z8.1),(6,.rep Tl r4.1),(7,I y7.2.2.2.1)]) (λi=>[.sl z8.1 22 .val (List.set (nO z8.2 0 y7.2.2.2.2) (Int.toNat e.1) i),.sl i 3 Ti (x++[u]),.obj c 71 (.agg (.pair (.rep Tl e.2.1) (.pair (I e.2.2.1) (.eq (.int .u64 e.2.2.2)))))]) (λS w=>?_) (λl=>?_)
     .refine rA ?_;refine bv rfl rfl rfl (bA rfl) ⟨rfl,trivial⟩ ?_;refine bv rfl rfl rfl (bA rfl) ⟨rfl,trivial⟩ ?_;refine bv rfl rfl rfl (bA rfl) ⟨rfl,trivial⟩ ?_;refine bv rfl rfl rfl (bA rfl) ⟨rfl,trivial⟩ ?_;refine gp 1 rfl rfl rfl rfl (cI (t:=.val) rfl qs iN (tG s)) ⟨rfl,rfl,trivial⟩ ?_;refine gp 1 rfl rfl rfl rfl (gY (i:=Int.toNat e.1) (off:=0) rfl iN (λ_=>rfl) rfl (dN (tG s)).2.2 rfl) ⟨rfl,trivial⟩ ?_;refine bv rfl rfl rfl (bA rfl) ⟨rfl,trivial⟩ ?_;refine bv rfl rfl rfl (bA rfl) ⟨rfl,trivial⟩ ?_;refine bv rfl rfl rfl (ba (t:=Ti) rfl jr cJ O) ⟨rfl,rfl,trivial⟩ ?_;refine bv rfl rfl rfl (aA (t:=Ti) rfl cJ rfl) ⟨rfl,trivial⟩ ?_;refine bv rfl rfl rfl (bf (t:=Ti) [(.tmp 37,_)] [u] rfl rfl ec (.cons rfl .int .nil) rfl rfl) ⟨rfl,trivial⟩ ?_;refine Jd 0 rfl (λv=>[.sl v 3 Ti (x++[u])]) (λ_=>rfl) rfl rfl rfl (cx rfl rfl ec (ao X)) ⟨rfl,rfl,trivial⟩ ?_;refine sT 12 [true,true,true,true,true,true,true,true,true,true,true,true] [40] [] [] rfl (by kernel_rfl) (by kernel_rfl) (by kernel_rfl) dZ (λvs hv hB=>?_);obtain⟨w0,U1,rfl,UK⟩:=ax hv;obtain⟨w1,U0,rfl,UJ⟩:=ax UK;obtain⟨w2,UZ,rfl,UI⟩:=ax UJ;obtain⟨w3,UY,rfl,UH⟩:=ax UI;obtain⟨w4,UX,rfl,UG⟩:=ax UH;obtain⟨w5,UW,rfl,UF⟩:=ax UG;obtain⟨w6,UV,rfl,UE⟩:=ax UF;obtain⟨w7,UU,rfl,zz⟩:=ax UE;obtain⟨w8,UT,rfl,qt⟩:=ax zz;obtain⟨w9,UR,rfl,J⟩:=ax qt;obtain⟨US,UQ,rfl,E⟩:=ax J;obtain⟨l,UP,rfl,D⟩:=ax E;obtain rfl:=oY D;refine⟨[0,1,2],[.sl z8.1 22 .val (nO z8.2 0 y7.2.2.2.2),.obj c 71 (.agg (.pair (.rep Tl e.2.1) (.pair (I e.2.2.1) (.eq (.int .u64 e.2.2.2))))),.sl l 3 Ti (x++[u])],by kernel_rfl,by decide,?_⟩;refine qw rfl rfl rfl rfl (cI (t:=.val) rfl qs iN (tG s)) ⟨rfl,rfl,trivial⟩ (by kernel_rfl) ?_;refine oJ 2 rfl ?_;refine Pe λo18=>?_;refine oJ 1 rfl ?_;refine sP rfl rfl (gC (i:=Int.toNat e.1) rfl iN rfl (np (tG s)) rfl (.val o18) o18) ⟨rfl,rfl,trivial⟩ (by kernel_rfl) ?_;refine yz ?_;refine bo (SE.fin (Γ':=[(0,Pt c),(5,.eq z8.1),(6,.rep Tl r4.1),(7,I y7.2.2.2.1)]) (Δ':=[.sl z8.1 22 .val (List.set (nO z8.2 0 y7.2.2.2.2) (Int.toNat e.1) l),.sl l 3 Ti (x++[u]),.obj c 71 (.agg (.pair (.rep Tl e.2.1) (.pair (I e.2.2.1) (.eq (.int .u64 e.2.2.2)))))]) [0,1,2] ⟨rfl,rfl,rfl,rfl,trivial⟩ rfl) ?_;exact λa w st=>⟨rfl,(l),(SE.fin (Γ':=[(0,Pt c),(5,.eq z8.1),(6,.rep Tl r4.1),(7,I y7.2.2.2.1)]) (Δ':=[.sl z8.1 22 .val (List.set (nO z8.2 0 y7.2.2.2.2) (Int.toNat e.1) l),.sl l 3 Ti (x++[u]),.obj c 71 (.agg (.pair (.rep Tl e.2.1) (.pair (I e.2.2.1) (.eq (.int .u64 e.2.2.2)))))]) [0,1,2] ⟨rfl,rfl,rfl,rfl,trivial⟩ rfl) a w st⟩
     .show JN _ _ [(0,Pt c),(5,.eq z8.1),(6,.rep Tl r4.1),(7,I y7.2.2.2.1)] ([.sl z8.1 22 .val (List.set (nO z8.2 0 y7.2.2.2.2) (Int.toNat e.1) l),.sl l 3 Ti (x++[u]),.obj c 71 (.agg (.pair (.rep Tl e.2.1) (.pair (I e.2.2.1) (.eq (.int .u64 e.2.2.2)))))]++(nG z8.2 0 y7.2.2.2.2).eraseIdx (Int.toNat e.1));refine bp 1 rfl ?_;refine bo (CC (pre:=[.obj c 71 (.agg (.pair (.rep Tl e.2.1) (.pair (I e.2.2.1) (.eq (.int .u64 e.2.2.2)))))]) (z:=z8) (i:=Int.toNat e.1) (Dl s).2) ?_;refine bn ?_;exact vn ((z8.1,A7 z8.2 (Int.toNat e.1) l),(e.2.1,e.2.2.1,e.2.2.2,List.set y7.2.2.2.2 (Int.toNat e.1) (x++[u]))) h (kJ [.obj c 71 (.agg (.pair (.rep Tl e.2.1) (.pair (I e.2.2.1) (.eq (.int .u64 e.2.2.2)))))] (xG 22 (z8.1,A7 z8.2 (Int.toNat e.1) l) (List.set y7.2.2.2.2 (Int.toNat e.1) (x++[u]))) [0] ⟨rfl,rfl,rfl,rfl,trivial⟩ rfl)
   .refine ae (mq ?_);obtain⟨mc,M,h⟩:=aa h;refine jb (bH rfl M) ?_;refine aq (nl ?_);exact vn (y,(x9.1,x9.2.1,x9.2.2.1,mc,x9.2.2.2)) h (kJ [.obj c 71 (.agg (.pair (.rep Tl x9.1) (.pair (I x9.2.1) (.eq (.int .u64 x9.2.2.1)))))] (xG 22 y x9.2.2.2) [0] ⟨rfl,rfl,rfl,rfl,trivial⟩ rfl)
  .refine xa ?_;exact vn (z8,(y7.1,y7.2.1,y7.2.2.1,y7.2.2.2.2)) h (kJ [.obj c 71 (.agg (.pair (.rep Tl y7.1) (.pair (I y7.2.1) (.eq (.int .u64 y7.2.2.1)))))] (xG 22 z8 y7.2.2.2.2) [0] ⟨rfl,trivial⟩ rfl)
 .
  refine sr (mq ?_);refine aq (nt (aE ?_));refine bo (IT (pre:=[.obj c 71 (.agg (.pair (.rep Tl x5.1) (.pair (I x5.2.1) (.eq (.int .u64 x5.2.2.1)))))])) ?_;refine bo (ju [4,5,41] ⟨rfl,rfl,rfl,trivial⟩) ?_;cases h;exact aL () [_] 1 ⟨rfl,trivial⟩ rfl
def fC(k:Nat)(r2:Int×bD):Nat->((List Int)×Int×Int×(List (List (List Int)))×Int)->Option ((List (List (List Int)))×(List Int)×Int×Int)
 |0,_=>none
 |n+1,c=>
  if 0 < c.2.2.2.2 then(((((if 0 < (c.2.2.2.1.length:Int) then((dS k (c.1,c.2.1,c.2.2.1) 3).bind λl=>
  some (l.2.1,l.2.2.1,l.2.2.2,l.1)) else(some (c.1,c.2.1,c.2.2.1,false))):Option ((List Int)×Int×Int×Bool)).bind λe=>
  if e.2.2.2=true then((ck ((c.2.2.2.1.length:Int) - 1)).bind λx=>
  (aV c.2.2.2.1 x).bind λu=>
  (gi k u).bind λr=>
  (cH (bM (length c.2.2.2.1+length [r]))).bind λ_=>
  some (e.1,e.2.1,e.2.2.1,c.2.2.2.1++[r])) else((jL k (e.1,e.2.1,e.2.2.1) r2.1).bind λh=>
  (cH (bM (length c.2.2.2.1+length [h.1]))).bind λ_=>
  some (h.2.1,h.2.2.1,h.2.2.2,c.2.2.2.1++[h.1]))):Option ((List Int)×Int×Int×(List (List (List Int))))).bind λj=>
  (ck (c.2.2.2.2 - 1)).bind λs=>
  fC k r2 n (j.1,j.2.1,j.2.2.1,j.2.2.2,s)) else(some (c.2.2.2.1,c.1,c.2.1,c.2.2.1))
def jM(k:Nat)(a0:bD)(a1:Int)(a2:Int):Option (ab×bD):=
 (fP k (a0.1,a0.2.1,a0.2.2) 1 a1).bind λr2=>
 (bR k (r2.2.1,r2.2.2.1,r2.2.2.2) 3).bind λr3=>
 (gR k (r3.2.1,r3.2.2.1,r3.2.2.2) [0,1,1,2,r3.1]).bind λr4=>
 (bR k (r4.2.1,r4.2.2.1,r4.2.2.2) 3).bind λr5=>
 (gR k (r5.2.1,r5.2.2.1,r5.2.2.2) [0,1,2,r5.1]).bind λr6=>
 (fP k (r6.2.1,r6.2.2.1,r6.2.2.2) 1 3).bind λr7=>
 (gR k (r7.2.1,r7.2.2.1,r7.2.2.2) [1,2,r7.1]).bind λr8=>
 (((fP k (r8.2.1,r8.2.2.1,r8.2.2.2) 1 a2).bind λe=>
 fC k r2 k (e.2.1,e.2.2.1,e.2.2.2,([]:(List (List (List Int)))),e.1)):Option ((List (List (List Int)))×(List Int)×Int×Int)).bind λc=>
 some ((r2.1,r4.1,r6.1,r8.1,c.1,[]),(c.2.1,c.2.2.1,c.2.2.2))
theorem uL(k:Nat)(a0:bD)(c:Nat)(a1:Int)(a2:Int)(r:ab×bD)(h:jM k a0 a1 a2=some r):
 du Tryz.prog 23 [Pt c,I a1,I a2] [.obj c 71 (.agg (.pair (.rep Tl a0.1) (.pair (I a0.2.1) (.eq (.int .u64 a0.2.2)))))] (λ_:Unit=>(bJ [.agg (.pair (I r.1.1) (.pair (I r.1.2.1) (.pair (I r.1.2.2.1) (.pair (I r.1.2.2.2.1) (.pair (.rep (.slice (.slice Tl)) r.1.2.2.2.2.1) (.eq (.slice none 0 0)))))))],[.obj c 71 (.agg (.pair (.rep Tl r.2.1) (.pair (I r.2.2.1) (.eq (.int .u64 r.2.2.2)))))])):=by
 unfold jM at h
 replace h:=bb h
 refine du.of 67 Tryz.func23 rfl Tryz.ntmps23 rfl λS w0=>?_
 refine sr ?_
 refine aQ rfl rfl rfl (aX rfl mV tC) trivial λb1=>?_
 refine nt ?_
 refine sr ?_
 iterate 2 refine mq ?_
 obtain⟨r2,UP,h⟩:=aa h
 have UW:=iY k (a0.1,a0.2.1,a0.2.2) c 1 a1 r2 UP
 refine fr 1 ?_
 refine kc (ay [.tmp 10,.const (.int .i64 (1)),.tmp 11] rfl rfl Ll rfl UW) ?_
 iterate 2 refine mq ?_
 obtain⟨r3,UO,h⟩:=aa h
 have UV:=bW k (r2.2.1,r2.2.2.1,r2.2.2.2) c 3 r3 UO
 refine kb (ay [.tmp 14,.const (.int .i64 (3))] rfl rfl tu rfl UV) ?_
 refine bZ rfl (bf (t:=Ti) [(.const (.int .i64 (0)),_),(.const (.int .i64 (1)),_),(.const (.int .i64 (1)),_),(.const (.int .i64 (2)),_),(.tmp 15,_)] [0,1,1,2,r3.1] rfl rfl ec (.cons rfl .int (.cons rfl .int (.cons rfl .int (.cons rfl .int (.cons rfl .int .nil))))) rfl rfl) ⟨rfl,rfl,rfl,rfl,rfl,trivial⟩ ?_
 obtain⟨r4,UN,h⟩:=aa h
 have UU:=lx k (r3.2.1,r3.2.2.1,r3.2.2.2) c [0,1,1,2,r3.1] r4 UN
 refine kb (ay [.tmp 13,.tmp 16] rfl rfl OH rfl UU) ?_
 iterate 2 refine mq ?_
 obtain⟨r5,UM,h⟩:=aa h
 have UT:=bW k (r4.2.1,r4.2.2.1,r4.2.2.2) c 3 r5 UM
 refine kb (ay [.tmp 19,.const (.int .i64 (3))] rfl rfl tu rfl UT) ?_
 refine bZ rfl (bf (t:=Ti) [(.const (.int .i64 (0)),_),(.const (.int .i64 (1)),_),(.const (.int .i64 (2)),_),(.tmp 20,_)] [0,1,2,r5.1] rfl rfl ec (.cons rfl .int (.cons rfl .int (.cons rfl .int (.cons rfl .int .nil)))) rfl rfl) ⟨rfl,rfl,rfl,rfl,trivial⟩ ?_
 obtain⟨r6,UL,h⟩:=aa h
 have US:=lx k (r5.2.1,r5.2.2.1,r5.2.2.2) c [0,1,2,r5.1] r6 UL
 refine kb (ay [.tmp 18,.tmp 21] rfl rfl OH rfl US) ?_
 iterate 2 refine mq ?_
 obtain⟨r7,UK,h⟩:=aa h
 have UR:=iY k (r6.2.1,r6.2.2.1,r6.2.2.2) c 1 3 r7 UK
 refine kc (ay [.tmp 24,.const (.int .i64 (1)),.const (.int .i64 (3))] rfl rfl Ll rfl UR) ?_
 refine jc (bf (t:=Ti) [(.const (.int .i64 (1)),_),(.const (.int .i64 (2)),_),(.tmp 25,_)] [1,2,r7.1] rfl rfl ec (.cons rfl .int (.cons rfl .int (.cons rfl .int .nil))) rfl rfl) ?_
 obtain⟨r8,UJ,h⟩:=aa h
 have UQ:=lx k (r7.2.1,r7.2.2.1,r7.2.2.2) c [1,2,r7.1] r8 UJ
 refine kb (ay [.tmp 23,.tmp 26] rfl rfl OH rfl UQ) ?_
 refine bZ rfl (cR [(0,.tmp 12,_),(1,.tmp 17,_),(2,.tmp 22,_),(3,.tmp 27,_)] rfl Bi mV u7 (gA ⟨rfl,rfl,rfl,rfl,trivial⟩) rfl) ⟨rfl,rfl,rfl,rfl,trivial⟩ ?_
 refine aQ rfl rfl rfl (aX rfl mV tC) trivial λb9=>?_
 refine aF rfl rfl (aC rfl cV trivial rfl rfl) ⟨rfl,rfl,trivial⟩ ?_
 refine nt ?_
 refine aN (Z:=Value) (α:=(List (List (List Int)))×(List Int)×Int×Int) (λJ y=>[(6,Pt b1),(7,Pt b9)]) (λJ y=>[.obj b1 26 (.agg (.pair (I 0) (.pair (I 0) (.pair (I 0) (.pair (I 0) (.pair (.eq (.slice none 0 0)) (.eq (.slice none 0 0)))))))),.obj b9 26 (.agg (.pair (I r2.1) (.pair (I r4.1) (.pair (I r6.1) (.pair (I r8.1) (.pair (.eq J) (.eq (.slice none 0 0)))))))),.sl J 30 (.slice Tl) y.1,.obj c 71 (.agg (.pair (.rep Tl y.2.1) (.pair (I y.2.2.1) (.eq (.int .u64 y.2.2.2)))))]) h (λK h=>?_) (λJ y h=>?_)
 .
  refine sr ?_;iterate 2 refine mq ?_
  obtain⟨F,zz,h⟩:=aa h;refine fr 1 ?_;refine kc (ay [.tmp 29,.const (.int .i64 (1)),.tmp 30] rfl rfl Ll rfl (iY k (r8.2.1,r8.2.2.1,r8.2.2.2) c 1 a2 F zz)) ?_;refine aq (nt (ak ?_));refine iJ (SE.nil 30 (.slice Tl)) ?_;refine aM (λu e=>[(0,Pt c),(6,Pt b1),(7,Pt b9),(8,I e.2.2.2.2)]) (λu e=>[.obj c 71 (.agg (.pair (.rep Tl e.1) (.pair (I e.2.1) (.eq (.int .u64 e.2.2.1))))),.obj b1 26 (.agg (.pair (I 0) (.pair (I 0) (.pair (I 0) (.pair (I 0) (.pair (.eq (.slice none 0 0)) (.eq (.slice none 0 0)))))))),.obj b9 26 (.agg (.pair (I r2.1) (.pair (I r4.1) (.pair (I r6.1) (.pair (I r8.1) (.pair (.eq u) (.eq (.slice none 0 0)))))))),.sl u 30 (.slice Tl) e.2.2.2.1]) (fC k r2) k (.slice none 0 0) (F.2.1,F.2.2.1,F.2.2.2,([]:(List (List (List Int)))),F.1) (λ_=>rfl) h (SE.fin [1,3,2,0] ⟨rfl,rfl,rfl,rfl,trivial⟩ rfl) (λn u e h=>?_);unfold fC at h;refine aj (sr (mq ?_));refine jb (lR rfl) ?_;refine nt (ci h (λh=>?_) (λh=>?_))
  .refine sk (aN (Z:=Value) (α:=(List Int)×Int×Int×(List (List (List Int)))) (λD l=>[(0,Pt c),(6,Pt b1),(7,Pt b9),(8,I e.2.2.2.2)]) (λD l=>[.obj c 71 (.agg (.pair (.rep Tl l.1) (.pair (I l.2.1) (.eq (.int .u64 l.2.2.1))))),.obj b1 26 (.agg (.pair (I 0) (.pair (I 0) (.pair (I 0) (.pair (I 0) (.pair (.eq (.slice none 0 0)) (.eq (.slice none 0 0)))))))),.obj b9 26 (.agg (.pair (I r2.1) (.pair (I r4.1) (.pair (I r6.1) (.pair (I r8.1) (.pair (.eq D) (.eq (.slice none 0 0)))))))),.sl D 30 (.slice Tl) l.2.2.2]) h (λK h=>?_) (λD l h=>?_))
   .refine ak (aj (sr (fl cU ?_)));refine fr 2 ?_;refine lo ic ?_;refine fr 3 ?_;refine ka (mA rfl rfl tX) ?_;refine aq (nt ?_);refine aN (Z:=Unit) (α:=(List Int)×Int×Int×Bool) (λQ j=>[(0,Pt c),(6,Pt b1),(7,Pt b9),(8,I e.2.2.2.2),(9,I (e.2.2.2.1.length:Int)),(44,.eq (.bool j.2.2.2))]) (λQ j=>[.obj c 71 (.agg (.pair (.rep Tl j.1) (.pair (I j.2.1) (.eq (.int .u64 j.2.2.1))))),.obj b1 26 (.agg (.pair (I 0) (.pair (I 0) (.pair (I 0) (.pair (I 0) (.pair (.eq (.slice none 0 0)) (.eq (.slice none 0 0)))))))),.obj b9 26 (.agg (.pair (I r2.1) (.pair (I r4.1) (.pair (I r6.1) (.pair (I r8.1) (.pair (.eq u) (.eq (.slice none 0 0)))))))),.sl u 30 (.slice Tl) e.2.2.2.1]) h (λK h=>?_) (λQ j h=>?_)
    .refine ae (mq ?_);refine jb (lR rfl) ?_;refine mq ?_;refine bN (s:=41) rfl (λhb=>?_) (λhb=>?_)
     .replace h:=eu (tw hb) h;refine gm ?_;obtain⟨E,qt,h⟩:=aa h;refine fr 2 ?_;refine eO rfl rfl rfl rfl rfl rfl (ay [.tmp 42,.const (.int .i64 (3))] rfl rfl Ii rfl (fD k (e.1,e.2.1,e.2.2.1) c 3 E qt)) ⟨rfl,rfl,trivial⟩ ?_;refine pt (nl ?_);exact jz ((),(E.2.1,E.2.2.1,E.2.2.2,E.1)) h [0,3,2,1]
     .replace h:=cK (tz hb) h;iterate 2 refine gn ?_
      refine pf (nl ?_);exact jz ((),(e.1,e.2.1,e.2.2.1,false)) h [2,3,1,0]
    .refine cv h (λh=>?_) (λh=>?_)
     .refine aj (cG ?_);refine da (ap rfl cU) ?_;refine ea 2 (an rfl ic jj rfl) ?_;refine da (ap rfl cU) ?_;refine ea 2 (an rfl ic jj rfl) ?_;refine dm ?_;obtain⟨UG,X,h⟩:=aa h;refine db (eE rfl X) ?_;obtain⟨UF,M,h⟩:=aa h;refine eb 3 (cI (t:=(.slice Tl)) rfl tX qE M) ?_;refine ea 3 (gY (i:=Int.toNat UG) (off:=0) rfl qE (λ_=>rfl) rfl (dN M).2.2 rfl) ?_;obtain⟨O,mw,h⟩:=aa h;refine da (yw (ay [.tmp 52] rfl rfl QM rfl (mM k UF O mw))) ?_;refine da (bf (t:=(.slice Tl)) [(.tmp 53,_)] [O] rfl rfl xt (.cons rfl .rep .nil) rfl rfl) ?_;refine df dZ ?_;obtain⟨UY,gw,h⟩:=aa h;refine fr 3 ?_;refine eh rfl rfl rfl (cx rfl rfl xt (ao gw)) ⟨rfl,rfl,trivial⟩ λUI=>?_;refine fl cU ?_;refine mh λo25=>?_;refine fr 3 ?_;refine aF rfl rfl (aC rfl ic o25 rfl rfl) ⟨rfl,rfl,trivial⟩ ?_;refine nt (hH (cC (dO (au ?_))));exact jz (UI,(j.1,j.2.1,j.2.2.1,e.2.2.2.1++[O])) h [2,3,0,1]
     .refine sk (cG ?_);refine da (ap rfl cU) ?_;refine ea 2 (an rfl ic jj rfl) ?_;refine dm ?_;refine da (ap rfl fG) ?_;refine ea 2 (an rfl cJ jj rfl) ?_;obtain⟨x,mc,h⟩:=aa h;refine ME 0 rfl rfl rfl rfl (ay [.tmp 59,.tmp 61] rfl rfl To rfl (uJ k (j.1,j.2.1,j.2.2.1) c r2.1 x mc)) ⟨rfl,rfl,trivial⟩ ?_;refine da (bf (t:=(.slice Tl)) [(.tmp 62,_)] [x.1] rfl rfl xt (.cons rfl .rep .nil) rfl rfl) ?_;refine MG (Δ':=[.obj b1 26 (.agg (.pair (I 0) (.pair (I 0) (.pair (I 0) (.pair (I 0) (.pair (.eq (.slice none 0 0)) (.eq (.slice none 0 0)))))))),.obj b9 26 (.agg (.pair (I r2.1) (.pair (I r4.1) (.pair (I r6.1) (.pair (I r8.1) (.pair (.eq u) (.eq (.slice none 0 0)))))))),.sl u 30 (.slice Tl) e.2.2.2.1,.obj c 71 (.agg (.pair (.rep Tl x.2.1) (.pair (I x.2.2.1) (.eq (.int .u64 x.2.2.2)))))]) (by kernel_rfl) dZ (by kernel_rfl) ?_;obtain⟨UX,Y,h⟩:=aa h;refine fr 2 ?_;refine eh rfl rfl rfl (cx rfl rfl xt (ao Y)) ⟨rfl,rfl,trivial⟩ λUH=>?_;refine fl cU ?_;refine mh λo29=>?_;refine fr 2 ?_;refine aF rfl rfl (aC rfl ic o29 rfl rfl) ⟨rfl,rfl,trivial⟩ ?_;refine aI (bn ?_);exact jz (UH,(x.2.1,x.2.2.1,x.2.2.2,e.2.2.2.1++[x.1])) h [3,2,0,1]
   .refine ae (mq ?_);obtain⟨UE,U,h⟩:=aa h;refine jb (eE rfl U) ?_;refine aq (nl ?_);exact jz (D,(l.1,l.2.1,l.2.2.1,l.2.2.2,UE)) h [0,1,2,3]
  .refine xa ?_;exact jz (u,(e.2.2.2.1,e.1,e.2.1,e.2.2.1)) h [1,2,3,0]
 .
  refine sr (fr 1 ?_);refine fr 2 ?_;refine eJ (iE (off:=4) [] trivial rfl rfl) ?_;refine lo cV ?_;refine fr 1 ?_;refine aF rfl rfl (aC rfl cV trivial rfl rfl) ⟨rfl,rfl,trivial⟩ ?_;refine nt (aE (bo (SE.fin (Γ':=[(6,_)]) [2,0,1] ⟨rfl,trivial⟩ rfl) ?_));cases h;exact aL () [.agg (.pair (I r2.1) (.pair (I r4.1) (.pair (I r6.1) (.pair (I r8.1) (.pair (.rep (.slice (.slice Tl)) y.1) (.eq (.slice none 0 0)))))))] 1 ⟨⟨_,_,_,_,_,rfl,(.tail _ (.head _)),cV,(nK),rfl⟩,trivial⟩ rfl
def eW(k:Nat)(a0:ab)(a1:(List Int)):Nat->(Int×Int)->Option (Except ((Option ab)×Int×Int) Int)
 |0,_=>none
 |n+1,y5=>
  if y5.2 < (a1.length:Int) then((aV a1 y5.2).bind λx7=>
  (ck (a0.1 - 1)).bind λx8=>
  (dK k x7 0 x8).bind λr9=>
  if¬(r9=true) then(some (.error (none,0,3))) else(((if 0 < y5.2 then((ck (y5.2 - 1)).bind λh=>
  (aV a1 h).bind λe=>
  some (decide (x7≤e))) else(some false)):Option (Bool)).bind λj=>
  if j=true then(some (.error (none,0,5))) else((fZ k y5.1 x7).bind λl=>
  (ck (y5.2+1)).bind λc=>
  eW k a0 a1 n (l,c)))) else(some (.ok y5.1))
def dC(k:Nat)(a0:ab)(h:Int)(e:(List Int)):Nat->Int->Option (Except ((Option ab)×Int×Int) Unit)
 |0,_=>none
 |n+1,c=>
  if c < (e.length:Int) then((aV e c).bind λu=>
  (ck (a0.1 - 1)).bind λs=>
  (ck ((a0.2.2.2.2.1.length:Int) - 1)).bind λr=>
  (aV [s,r,(a0.2.2.2.2.1.length:Int)] h).bind λl=>
  (dK k u 0 l).bind λx=>
  if¬(x=true) then(some (.error (none,0,3))) else((ck (c+1)).bind λj=>
  dC k a0 h e n j)) else(some (.ok ()))
def cN(k:Nat)(a0:ab)(a2:(List Int))(a3:(List Int))(a4:(List Int)):Nat->Int->Option (Except ((Option ab)×Int×Int) Unit)
 |0,_=>none
 |n+1,c=>
  if c < ([a2,a3,a4].length:Int) then(bE (α:=Unit) ((aV [a2,a3,a4] c).bind λj=>
  dC k a0 c j k 0) (λe=>some (.error e)) λ_=>
  (ck (c+1)).bind λh=>
  cN k a0 a2 a3 a4 n h) else(some (.ok ()))
def iT(k:Nat)(a0:ab)(a1:(List Int))(a2:(List Int))(a3:(List Int))(a4:(List Int)):Option ((Option ab)×Int×Int):=
 (mI k a0).bind λr2=>
 if¬(r2=0) then(some (none,0,r2)) else(bE (α:=Int) (eW k a0 a1 k (0,0)) (some) λx3=>
 bE (α:=Unit) (cN k a0 a2 a3 a4 k 0) (some) λ_=>
 (f6 k a0).bind λe=>
 fK e (none) (λc=>(eF k c).bind λh=>
 some (some c,x3,0)))
theorem jI(k:Nat)(a0:ab)(a1:(List Int))(a2:(List Int))(a3:(List Int))(a4:(List Int))(r:(Option ab)×Int×Int)(h:iT k a0 a1 a2 a3 a4=some r):
 bX (dQ Tryz.prog) 37 [.rep am a0,.rep Tl a1,.rep Tl a2,.rep Tl a3,.rep Tl a4] [] (λz:Nat×Nat=>(bJ [J7 r.1 z.1,.eq (.int .u8 r.2.1),I r.2.2],J6 r.1 λq=>qy q z.1 z.2 k)):=by
 unfold iT at h
 replace h:=bb h
 refine bX.of 95 Tryz.func37 rfl Tryz.ntmps37 rfl λS w0=>?_
 refine sr ?_
 refine bx λb1=>?_
 refine cq ?_
 refine cq ?_
 refine cq ?_
 refine nt ?_
 refine aj ?_
 refine sr ?_
 refine lo cV ?_
 obtain⟨r2,UZ,h⟩:=aa h
 have U0:=xR k a0 r2 UZ
 refine ja (ay [.tmp 22] rfl rfl Tm rfl U0) ?_
 refine aq ?_
 refine nt ?_
 refine sr ?_
 refine mq ?_
 refine jb (dW rfl) ?_
 refine nt ?_
 refine cn h (λh=>?_) (λh=>?_)
 .
  refine sr (mq ?_);refine cq ?_;refine cq ?_;refine aq (nt (rx ?_));cases h;exact aL (0,0) [.eq (.pointer none),_,_] 0 ⟨rfl,rfl,rfl,trivial⟩ rfl
 .
  refine sk (sr (cq (nt ?_)));refine dG (Z:=Unit) (α:=Int) (λz4 x3=>[(2,.rep Tl a2),(3,.rep Tl a3),(4,.rep Tl a4),(5,Pt b1),(14,.eq (.int .u8 x3))]) (λz4 x3=>[.obj b1 26 (.rep am a0)]) (λe=>e=r) h (λe h=>Option.some.inj h) (λK hR h=>?_) (λz4 x3 h=>?_)
  .refine sr (mq ?_);refine ol jr ?_;refine fq rfl ?_;refine nt (ak (aM (λz6 y5=>[(1,.rep Tl a1),(2,.rep Tl a2),(3,.rep Tl a3),(4,.rep Tl a4),(5,Pt b1),(14,.eq (.int .u8 y5.1)),(27,.rep Tl a1),(28,I (a1.length:Int)),(29,I y5.2)]) (λz6 y5=>[.obj b1 26 (.rep am a0)]) (eW k a0 a1) k () (0,0) (λ_=>rfl) h (SE.fin [0] ⟨rfl,rfl,rfl,rfl,rfl,rfl,rfl,rfl,rfl,trivial⟩ rfl) (λn z6 y5 h=>?_)));unfold eW at h;refine sr (jb (bO rfl) ?_);refine nt (aj (ci h (λh=>?_) (λh=>?_)))
   .refine sk (aj (ak (sr (mq ?_))));obtain⟨x7,UX,h⟩:=aa h;refine jb (ba (t:=Ti) rfl jr cJ UX) ?_;refine ja (aA (t:=Ti) rfl cJ rfl) ?_;refine aq ?_;refine aq (nt (aj (sr ?_)));refine mq ?_;refine fl fG ?_;refine lo cJ ?_;obtain⟨x8,UW,h⟩:=aa h;refine jb (eE rfl UW) ?_;obtain⟨r9,UY,h⟩:=aa h;refine jc (ay [.tmp 34,.const (.int .i64 (0)),.tmp 37] rfl rfl yk rfl (dR k x7 0 x8 r9 UY)) ?_;refine ja (ig rfl) ?_;refine nt (cw h (λh=>?_) (λh=>?_))
    .refine sr (cq ?_);refine cq ?_;refine cq (nt (rx (br (bL (bz ?_)))));obtain rfl:=hR _ h;exact aL (0,0) [.eq (.pointer none),_,_] 0 ⟨rfl,rfl,rfl,trivial⟩ rfl
    .refine sk (aj (aN (Z:=Unit) (α:=Bool) (λO y=>[(1,.rep Tl a1),(2,.rep Tl a2),(3,.rep Tl a3),(4,.rep Tl a4),(5,Pt b1),(14,.eq (.int .u8 y5.1)),(16,I x7),(27,.rep Tl a1),(28,I (a1.length:Int)),(29,I y5.2),(50,.eq (.bool y))]) (λO y=>[.obj b1 26 (.rep am a0)]) h (λK h=>?_) (λO y h=>?_)))
     .refine ae (mq ?_);refine jb (lR rfl) ?_;refine mq ?_;refine bN (s:=42) rfl (λhb=>?_) (λhb=>?_)
      .replace h:=eu (tw hb) h;refine gm ?_;refine gm ?_;refine gm ?_;obtain⟨U6,UI,h⟩:=aa h;refine gb (eE rfl UI) ?_;obtain⟨US,UH,h⟩:=aa h;refine gb (ba (t:=Ti) rfl jr cJ UH) ?_;refine ga (aA (t:=Ti) rfl cJ rfl) ?_;refine gb (C0 rfl) ?_;refine pt (nl ?_);exact jz ((),decide (x7≤US)) h [0]
      .replace h:=cK (tz hb) h;iterate 7 refine gn ?_
       refine pf (nl ?_);exact jz ((),false) h [0]
     .refine cv h (λh=>?_) (λh=>?_)
      .refine sr (cq ?_);refine cq ?_;refine cq (nt (rx (br (bL (bz ?_)))));obtain rfl:=hR _ h;exact aL (0,0) [.eq (.pointer none),_,_] 0 ⟨rfl,rfl,rfl,trivial⟩ rfl
      .refine sk (ae ?_);iterate 2 refine mq ?_
       obtain⟨Y,UM,h⟩:=aa h;refine jb (ay [.tmp 51,.tmp 52] rfl rfl OG rfl (j9 k y5.1 x7 Y UM)) ?_;refine aq (aI (aS (tn (ae ?_))));obtain⟨UR,UG,h⟩:=aa h;refine jb (bH rfl UG) ?_;refine mq (nl ?_);exact jz ((),(Y,UR)) h [0]
   .refine xa ?_;exact jz ((),y5.1) h [0]
  .refine dG (Z:=Unit) (α:=Unit) (λM U=>[(5,Pt b1),(14,.eq (.int .u8 x3))]) (λM U=>[.obj b1 26 (.rep am a0)]) (λe=>e=r) h (λe h=>Option.some.inj h) (λK hR h=>?_) (λM U h=>?_)
   .refine sr ?_;iterate 3 refine mq ?_
    refine jc (bf (t:=Tl) [(.tmp 55,_),(.tmp 56,_),(.tmp 57,_)] [a2,a3,a4] rfl rfl pw (.cons rfl .rep (.cons rfl .rep (.cons rfl .rep .nil))) rfl rfl) ?_;refine ol qs ?_;refine fq rfl ?_;refine nt (ak (aM (λJ c=>[(5,Pt b1),(14,.eq (.int .u8 x3)),(58,.rep (.slice Tl) [a2,a3,a4]),(59,I ([a2,a3,a4].length:Int)),(60,I c)]) (λJ c=>[.obj b1 26 (.rep am a0)]) (cN k a0 a2 a3 a4) k () 0 (λ_=>rfl) h (SE.fin [0] ⟨rfl,rfl,rfl,rfl,rfl,trivial⟩ rfl) (λn J c h=>?_)));unfold cN at h;refine sr (jb (bO rfl) ?_);refine nt (aj (ci h (λh=>?_) (λh=>?_)))
    .refine sk (dG (Z:=Unit) (α:=Unit) (λE Q=>[(5,Pt b1),(14,.eq (.int .u8 x3)),(58,.rep (.slice Tl) [a2,a3,a4]),(59,I ([a2,a3,a4].length:Int)),(60,I c)]) (λE Q=>[.obj b1 26 (.rep am a0)]) (λe=>e=r) h (λe h=>hR e h) (λK hR h=>?_) (λE Q h=>?_))
     .refine ak (sr (mq ?_));obtain⟨x,UF,h⟩:=aa h;refine jb (ba (t:=Tl) rfl qs iN UF) ?_;refine ja (aA (t:=Tl) rfl iN rfl) ?_;refine aq ?_;refine aq (nt (sr ?_));refine mq ?_;refine ol jr ?_;refine fq rfl ?_;refine nt (ak (aM (λD u=>[(5,Pt b1),(14,.eq (.int .u8 x3)),(17,I c),(58,.rep (.slice Tl) [a2,a3,a4]),(59,I ([a2,a3,a4].length:Int)),(60,I c),(65,.rep Tl x),(66,I (x.length:Int)),(67,I u)]) (λD u=>[.obj b1 26 (.rep am a0)]) (dC k a0 c x) k () 0 (λ_=>rfl) h (SE.fin [0] ⟨rfl,rfl,rfl,rfl,rfl,rfl,rfl,rfl,rfl,trivial⟩ rfl) (λn D u h=>?_)));unfold dC at h;refine sr (jb (bO rfl) ?_);refine nt (aj (ci h (λh=>?_) (λh=>?_)))
      .refine sk (aj (ak (sr ?_)));obtain⟨UQ,UE,h⟩:=aa h;refine jb (ba (t:=Ti) rfl jr cJ UE) ?_;refine ja (aA (t:=Ti) rfl cJ rfl) ?_;refine aq (nt (sr ?_));refine mq ?_;refine fl fG ?_;refine lo cJ ?_;obtain⟨U2,zz,h⟩:=aa h;refine jb (eE rfl zz) ?_;refine fl cU ?_;refine lo ic ?_;refine ol tX ?_;obtain⟨U1,qt,h⟩:=aa h;refine jb (eE rfl qt) ?_;refine fl cU ?_;refine lo ic ?_;refine ol tX ?_;refine jc (EE rfl Re cJ PO) ?_;refine mq ?_;obtain⟨UP,mw,h⟩:=aa h;refine jb (oa (t:=Ti) rfl Re cJ rfl rfl (λ_=>rfl) mw) ?_;obtain⟨UU,UL,h⟩:=aa h;refine jc (ay [.tmp 71,.const (.int .i64 (0)),.tmp 84] rfl rfl yk rfl (dR k UQ 0 UP UU UL)) ?_;refine ja (ig rfl) ?_;refine nt (cw h (λh=>?_) (λh=>?_))
       .refine sr (cq ?_);refine cq ?_;refine cq (nt (aE (br (bL (br (bL (bz ?_)))))));obtain rfl:=hR _ h;exact aL (0,0) [.eq (.pointer none),_,_] 0 ⟨rfl,rfl,rfl,trivial⟩ rfl
       .refine bi (aS (tn (ae ?_)));obtain⟨UO,mc,h⟩:=aa h;refine jb (bH rfl mc) ?_;refine mq (nl ?_);exact jz ((),UO) h [0]
      .refine hH (cC (cC (dO (bn ?_))));exact jz ((),()) h [0]
     .refine ae ?_;obtain⟨UN,gw,h⟩:=aa h;refine jb (bH rfl gw) ?_;refine mq (nl ?_);exact jz ((),UN) h [0]
    .refine xa ?_;exact jz ((),()) h [0]
   .refine sr (lo cV ?_);obtain⟨X,UK,h⟩:=aa h;have j:=kh k a0 X UK;rcases hr:X with _ |UV
    .rw [hr] at h j;replace h:=tB h;refine aK (Δ:=[]) (F:=_) (λ_ _ _=>ag rfl _) rfl rfl (ay [.tmp 89] rfl rfl EP rfl j) ⟨rfl,trivial⟩ λ_=>?_;cases h
    .rw [hr] at h j;replace h:=tA h;refine aK (Δ:=[]) (F:=_) (λ_ _ _=>ag rfl _) rfl rfl (ay [.tmp 89] rfl rfl EP rfl j) ⟨rfl,trivial⟩ λl=>?_;refine aq (nt (sr ?_));refine mq ?_;obtain⟨UT,UJ,h⟩:=aa h;refine fr 1 ?_;refine fr 1 ?_;refine aK (Δ:=[_,_]) (F:=_) (λ_ _ _=>ag rfl _) rfl rfl (aU [.tmp 91] rfl rfl Tj rfl (pX k UV l.1 l.2 UT UJ)) ⟨rfl,trivial⟩ λ_=>?_;refine nt (sr ?_);iterate 2 refine mq ?_
     refine aq ?_;refine aq ?_;refine cq (nt (aE ?_));cases h;exact aL (l.1,l.2) [.eq (.pointer (some ⟨l.1,0,none⟩)),_,_] 2 ⟨rfl,rfl,rfl,trivial⟩ rfl
def cy(k:Nat)(a0:ab)(a2:Int)(r1:(List (List Int))):Nat->Int->Option Bool
 |0,_=>none
 |n+1,y3=>
  if y3 < (a0.2.2.2.2.2.length:Int) then((aV a0.2.2.2.2.2 y3).bind λx5=>
  (((eV k a2 y3).bind λr9=>
  if¬(r9=true) then((aV r1 x5.2.1).bind λh=>
  (aV h x5.1).bind λe=>
  some (!decide ((decide (a0.2.2.1≤e))=x5.2.2))) else(some false)):Option (Bool)).bind λx7=>
  if x7=true then(some false) else((ck (y3+1)).bind λc=>
  cy k a0 a2 r1 n c)) else(some true)
def gr(k:Nat)(a0:ab)(a1:Int)(a2:Int):Option Bool:=
 (lM k a0 a1).bind λr1=>
 cy k a0 a2 r1 k 0
theorem oh(k:Nat)(a0:ab)(c z_a0:Nat)(a1:Int)(a2:Int)(r:Bool)(h:gr k a0 a1 a2=some r):
 CL (dQ Tryz.prog) 109 [Pt c,.eq (.int .u8 a1),.eq (.int .u8 a2)] [.obj c 125 (aW a0 z_a0),.inv z_a0 (cf k a0)] (.iface 156 (.agg #[])) r:=by
 unfold gr at h
 replace h:=bb h
 refine CL.of 48 Tryz.func109 rfl Tryz.ntmps109 rfl λS w0=>?_
 refine sr ?_
 iterate 2 refine mq ?_
 obtain⟨r1,E,h⟩:=aa h
 have J:=o8 k a0 c z_a0 a1 r1 E
 refine fr 1 ?_
 refine fr 1 ?_
 refine aK (Δ:=[_,_]) (F:=_) (λ_ _ _=>ag rfl _) rfl rfl (aU [.tmp 9,.tmp 10] rfl rfl ES rfl J) ⟨rfl,rfl,trivial⟩ λ_=>?_
 refine aQ rfl rfl rfl (aX rfl FD ID) trivial λb2=>?_
 refine aF rfl rfl (aC rfl Gn rfl rfl rfl) ⟨rfl,rfl,trivial⟩ ?_
 refine eJ (jt (t:=(.arr 7 Tr)) (x:=r1) [6] .rep ⟨rfl,trivial⟩) ?_
 refine nt ?_
 refine sr ?_
 refine mq ?_
 refine ja (cL rfl) ?_
 refine fl g7 ?_
 refine fl f8 ?_
 refine lo m9 ?_
 refine ol D4 ?_
 refine fq rfl ?_
 refine nt ?_
 refine ak ?_
 refine aM (λz4 y3=>[(0,Pt c),(2,.eq (.int .u8 a2)),(6,.at (.arr 7 Tr) r1),(16,Rs aH a0.2.2.2.2.2),(17,I (a0.2.2.2.2.2.length:Int)),(18,I y3)]) (λz4 y3=>[.obj c 125 (aW a0 z_a0),.inv z_a0 (cf k a0)]) (cy k a0 a2 r1) k () 0 (λ_=>rfl) h (SE.fin [0,1] ⟨rfl,rfl,rfl,rfl,rfl,rfl,trivial⟩ rfl) (λn z4 y3 h=>?_)
 unfold cy at h
 refine sr ?_
 refine jb (bO rfl) ?_
 refine nt ?_
 refine aj ?_
 refine ci h (λh=>?_) (λh=>?_)
 .
  refine sk (aj (ak (sr (mq ?_))));obtain⟨x5,y,h⟩:=aa h;refine jb (ba (t:=aH) rfl D4 jE y) ?_;refine ja (aA (t:=aH) rfl jE rfl) ?_;refine aQ rfl rfl rfl (aX rfl vB Ce) trivial λb6=>?_;refine aq ?_;refine aF rfl rfl (aC rfl jE rfl rfl rfl) ⟨rfl,rfl,trivial⟩ ?_;refine nt (aN (Z:=Unit) (α:=Bool) (λz8 x7=>[(0,Pt c),(2,.eq (.int .u8 a2)),(6,.at (.arr 7 Tr) r1),(16,Rs aH a0.2.2.2.2.2),(17,I (a0.2.2.2.2.2.length:Int)),(18,I y3),(44,.eq (.bool x7))]) (λz8 x7=>[.obj c 125 (aW a0 z_a0),.inv z_a0 (cf k a0)]) h (λK h=>?_) (λz8 x7 h=>?_))
  .refine cG ?_;refine dm ?_;refine dm ?_;obtain⟨r9,D,h⟩:=aa h;refine db (ay [.tmp 23,.tmp 24] rfl rfl Ih rfl (gJ k a2 y3 r9 D)) ?_;refine da (ig rfl) ?_;refine yD rfl rfl rfl (bA rfl) ⟨rfl,trivial⟩ (λhb=>?_) (λhb=>?_)
   .replace h:=eu (Bn hb) h;refine d5 rfl rfl rfl rfl rfl (ap rfl BO) ⟨rfl,rfl,trivial⟩ ?_;refine kK 0 rfl rfl rfl rfl rfl rfl (an rfl cJ jj rfl) ⟨rfl,rfl,trivial⟩ ?_;refine d5 rfl rfl rfl rfl rfl (ap rfl BP) ⟨rfl,rfl,trivial⟩ ?_;refine kK 0 rfl rfl rfl rfl rfl rfl (an rfl cJ jj rfl) ⟨rfl,rfl,trivial⟩ ?_;obtain⟨M,l,h⟩:=aa h;refine d5 rfl rfl rfl rfl rfl (cp (t:=Tr) rfl Jm je l) ⟨rfl,rfl,rfl,trivial⟩ ?_;obtain⟨u,j,h⟩:=aa h;refine d5 rfl rfl rfl rfl rfl (cp (t:=Ti) rfl CB cJ j) ⟨rfl,rfl,rfl,trivial⟩ ?_;refine d5 rfl rfl rfl rfl rfl (aA (t:=Ti) rfl cJ rfl) ⟨rfl,rfl,trivial⟩ ?_;refine d5 rfl rfl rfl rfl rfl (bA rfl) ⟨rfl,rfl,trivial⟩ ?_;refine d5 rfl rfl rfl rfl rfl (cL rfl) ⟨rfl,rfl,trivial⟩ ?_;refine d5 rfl rfl rfl rfl rfl (ap rfl g7) ⟨rfl,rfl,trivial⟩ ?_;refine d5 rfl rfl rfl rfl rfl (ap rfl sC) ⟨rfl,rfl,trivial⟩ ?_;refine kK 1 rfl rfl rfl rfl rfl rfl (an rfl cJ jj rfl) ⟨rfl,rfl,trivial⟩ ?_;refine d5 rfl rfl rfl rfl rfl (kp rfl) ⟨rfl,rfl,rfl,trivial⟩ ?_;refine d5 rfl rfl rfl rfl rfl (ap rfl Ib) ⟨rfl,rfl,trivial⟩ ?_;refine kK 0 rfl rfl rfl rfl rfl rfl (an rfl Ue jj rfl) ⟨rfl,rfl,trivial⟩ ?_;refine df dZ ?_;refine gb (Oh rfl U4) ?_;refine pt (nl ?_);exact jz ((), !decide ((decide (a0.2.2.1≤u))=x5.2.2)) h [1,2]
   .replace h:=cK (ux hb) h;iterate 15 refine dg ?_
    refine df dZ ?_;refine gn ?_;refine pf (nl ?_);exact jz ((),false) h [1,2]
  .refine cv h (λh=>?_) (λh=>?_)
   .refine ae (bZ rfl (He rfl O6 PN) trivial ?_);refine ja (G8 rfl O6) ?_;refine Fp rfl rfl rfl rfl ?_;refine AD ?_;refine sQ ?_;refine sQ ?_;refine AD ?_;refine bo (SE.fin (Γ':=[]) [0,1] trivial rfl) ?_;cases h;exact L9
   .refine bi (aS (tn (ae ?_)));obtain⟨s,e,h⟩:=aa h;refine jb (bH rfl e) ?_;refine mq (nl ?_);exact jz ((),s) h [0,1]
 .
  refine hH (cC (cC (dO (jW ?_))));refine bo (SE.fin (Γ':=[]) [0,1] trivial rfl) ?_;cases h;exact aL () [] 2 trivial rfl
def c6(k:Nat)(a0:ab)(a1:Int)(a2:Int):Option Bool:=gr k a0 a1 a2
theorem MU:O7 Tryz.prog 156 (.agg #[]):=⟨⟨_,O6⟩,λw=>by kernel_rfl⟩
theorem Ik:∀(S:FS) (w:World),(A.rep (.arr 0 Ti) []).holds S w (.agg #[]):=λ_ _=>⟨[],⟨rfl,rfl⟩,rfl⟩
theorem MJ:∀w,(zeroValue 156).run Tryz.prog w= .ok (.agg #[]) w:=λw=>by kernel_rfl
theorem Np:∀S w,(A.cells S w (.rep (.arr 0 Ti) []) (Value.cells (.agg #[])).toList):=λ_ _=>⟨rfl,rfl⟩
theorem MX:eo Tryz.prog 156 0 true:=⟨λw=>by kernel_rfl,λw=>by kernel_rfl⟩
theorem Q2:ah Tryz.prog 108:=ah.of Tryz.func108 (by kernel_rfl) (by kernel_rfl)
theorem Nb:ah Tryz.prog 109:=ah.of Tryz.func109 (by kernel_rfl) (by kernel_rfl)
theorem JK:eo Tryz.prog 4 1 false:=⟨λw=>by kernel_rfl,λw=>by kernel_rfl⟩
theorem RX:∀w,(zeroValue 4).run Tryz.prog w= .ok (.bool false) w:=λw=>by kernel_rfl
theorem TS:∀S w,(A.cells S w (.eq (.bool false)) (Value.cells (.bool false)).toList):=λ_ _=>⟨rfl,rfl⟩
theorem Ad:yE Tryz.prog 108 (.iface 156 (.agg #[])) 4 (.bool false):=by
 refine⟨Q2,λM e0=>?_,λM e0=>?_⟩
 .refine lI.of (M:=M) (m:=.returning) (m1:=.returning) (val:=.nilIface) Tryz.func108 rfl rfl (by decide) rfl rfl (by decide) (λρ=>rfl) (λfr b cs hb hm=>GM hb hm rfl) (.inl rfl) λb S w0=>?_;refine ja (Ko Ik rfl MU) ?_;refine mq ?_;refine xr ?_;refine xr ?_;refine aQ rfl rfl rfl (aX rfl MJ Np) trivial λb1=>?_;refine aF rfl rfl (aC rfl MX rfl rfl rfl) ⟨rfl,rfl,trivial⟩ ?_;refine aq (nt (sr ?_));refine mq (nt ?_);refine jd rfl (λhb=>by cases hb) (λhb=>?_);refine bi (jW ?_);refine bo (SE.fin (Γ':=[]) [1] trivial rfl) ?_;exact aL () [] 1 trivial rfl
 .refine lI.of (M:=M) (m:=.panicking (ib (.iface 156 (.agg #[])) false)) (m1:=.panicking (ib (.iface 156 (.agg #[])) true)) (val:=.iface 156 (.agg #[])) Tryz.func108 rfl rfl (by decide) rfl rfl (by decide) (λρ=>rfl) (λfr b cs hb hm=>GL hb hm) (.inr ⟨_,rfl⟩) λb S w0=>?_;refine ja (J9 Ik rfl MU) ?_;refine mq ?_;refine xr ?_;refine xr ?_;refine aQ rfl rfl rfl (aX rfl MJ Np) trivial λb1=>?_;refine aF rfl rfl (aC rfl MX rfl rfl rfl) ⟨rfl,rfl,trivial⟩ ?_;refine aq (nt (sr ?_));refine mq (nt ?_);refine jd rfl (λhb=>?_) (λhb=>by cases hb);refine ae (fr 1 ?_);refine aF rfl rfl (aC rfl JK rfl rfl rfl) ⟨rfl,rfl,trivial⟩ ?_;refine aI (jW ?_);refine bo (SE.fin (Γ':=[]) [0] trivial rfl) ?_;exact aL () [] 1 trivial rfl
theorem nI(k:Nat)(a0:ab)(c z_a0:Nat)(a1:Int)(a2:Int)(r:Bool)(h:c6 k a0 a1 a2=some r):
 bX (dQ Tryz.prog) 74 [Pt c,.eq (.int .u8 a1),.eq (.int .u8 a2)] (qy a0 c z_a0 k) (λ_:Unit=>(bJ [.eq (.bool r)],qy a0 c z_a0 k)):=by
 have cr:=oh k a0 c z_a0 a1 a2 r h
 refine AI 12 Tryz.func74 rfl Tryz.ntmps74 rfl λS w0=>?_
 refine sr ?_
 refine aQ rfl rfl rfl (aX rfl RX TS) trivial λb6=>?_
 refine nt ?_
 refine sr ?_
 refine ja (rN [] [.tmp 6] [] [(Pv b6)] rfl rfl rfl) ?_
 refine I2 rfl rfl rfl rfl rfl ?_
 refine nt ?_
 refine sr ?_
 iterate 3 refine mq ?_
 refine fr 2 ?_
 refine fr 2 ?_
 cases r with
 |false=>
  refine I3 (Ss:=[Pt c,.eq (.int .u8 a1),.eq (.int .u8 a2)]) (Δ:=qy a0 c z_a0 k) (F:=[.obj b6 4 (.eq (.bool false))]) [.tmp 8,.tmp 9,.tmp 10] rfl rfl rfl rfl Nb ⟨rfl,rfl,rfl,trivial⟩ cr ?_;refine sQ ?_;refine bo (SE.fin (Γ':=[(6,_)]) [2,0,1] ⟨rfl,trivial⟩ rfl) ?_;refine Fq Ad ?_;refine bo (SE.fin (Γ':=[(6,_)]) [1,2,0] ⟨rfl,trivial⟩ rfl) ?_;exact aL () [.eq (.bool false)] 2 ⟨⟨_,_,_,_,_,rfl,(.tail _ (.tail _ (.head _))),JK,(λ_=>rfl),rfl⟩,trivial⟩ rfl
 |true=>
  refine aK (Δ:=qy a0 c z_a0 k) (F:=[.obj b6 4 (.eq (.bool false))]) (λ_ _ _=>ag rfl _) rfl rfl (aU [.tmp 8,.tmp 9,.tmp 10] rfl rfl Nb rfl cr.ok) ⟨rfl,rfl,rfl,trivial⟩ λ_=>?_;refine nt (sr (fr 2 ?_));refine aF rfl rfl (aC rfl JK rfl rfl rfl) ⟨rfl,rfl,trivial⟩ ?_;refine nt (aE (L8 Ad ?_));refine bo (SE.fin (Γ':=[(6,_)]) [1,2,0] ⟨rfl,trivial⟩ rfl) ?_;exact aL () [.eq (.bool true)] 2 ⟨⟨_,_,_,_,_,rfl,(.tail _ (.tail _ (.head _))),JK,(λ_=>rfl),rfl⟩,trivial⟩ rfl
def dj(k:Nat)(a0:ab)(a1:Int):Option (List Int):=
 (jK k (qF (λ(y5:(List Int)) (p7:Int)=>
  (c6 k a0 p7 a1).bind λr9=>
  if r9=true then((cH (bM (length y5+length [p7]))).bind λ_=>
  some (y5++[p7],true)) else(some (y5,true)))) a0.1 (([]:(List Int)),false)).bind λr8=>
 if r8.2=true then(none) else(some r8.1)
theorem fu(k:Nat)(a0:ab)(c z_a0:Nat)(a1:Int)(r:(List Int))(h:dj k a0 a1=some r):
 bX (dQ Tryz.prog) 38 [Pt c,.eq (.int .u8 a1)] [.obj c 125 (aW a0 z_a0),.inv z_a0 (cf k a0)] (λ_:Unit=>(bJ [.rep (.slice (.int .u8)) r],[.obj c 125 (aW a0 z_a0),.inv z_a0 (cf k a0)])):=by
 unfold dj at h
 replace h:=bb h
 refine vp 23 Tryz.func38 rfl Tryz.ntmps38 rfl λS w0=>?_
 refine sr ?_
 refine bx λb1=>?_
 refine bx λb2=>?_
 refine cq ?_
 refine nt ?_
 refine sr ?_
 refine aQ rfl rfl rfl (aX rfl Jp LM) trivial λb3=>?_
 refine nt ?_
 refine aj ?_
 refine sr ?_
 refine fr 2 ?_
 refine lo JJ ?_
 refine ja (cL rfl) ?_
 refine fl g7 ?_
 refine fl fG ?_
 refine fr 3 ?_
 refine lo cJ ?_
 refine aQ rfl rfl rfl (ay [.tmp 11] rfl rfl QK rfl (qT a0.1)) ⟨rfl,trivial⟩ λb4=>?_
 refine nt ?_
 refine ak ?_
 refine iJ (SE.nil 73 (.int .u8)) ?_
 refine dI 6 rfl ?_
 refine dI 6 rfl ?_
 refine dI 2 rfl ?_
 refine dI 6 rfl ?_
 refine dI 6 rfl ?_
 refine dI 6 rfl ?_
 refine dI 6 rfl ?_
 obtain⟨r8,s,h⟩:=aa h
 refine rz (Δ:=[.obj b4 3 (I a0.1),.obj c 125 (aW a0 z_a0),.obj b1 72 (Pt c),.obj b3 76 (.eq (.slice none 0 0)),.sl (.slice none 0 0) 73 (.int .u8) ([]:(List Int)),.obj b2 73 (.eq (.int .u8 a1)),.inv z_a0 (cf k a0)]) (F:=[]) (X:=Value) (J:=λ_=>PI r8.2) (E:=λz6=>[.obj b4 3 (I a0.1),.obj c 125 (aW a0 z_a0),.obj b1 72 (Pt c),.obj b3 76 (.eq z6),.sl z6 73 (.int .u8) r8.1,.obj b2 73 (.eq (.int .u8 a1)),.inv z_a0 (cf k a0)]) (r0:=λ_=>.tup .any) rfl rfl Nh (λrec hp ha hb hs hpe hN hv l=>?_) (λdl z6=>t7 (λhj=>?_) (λhj=>?_))
 .
  rcases rec with⟨st0,pe0,fn0,tm0,ps0,as0,bd0,df0⟩;dsimp only at hp ha hb hs hpe hN hv;subst hp hs hpe;have vN:Aw tm0 [(2,Pt b1),(3,Pt b2),(5,Pt b3)]:=⟨congrArg A.eq (hv 2 _ rfl).symm,congrArg A.eq (hv 3 _ rfl).symm,congrArg A.eq (hv 5 _ rfl).symm,trivial⟩;refine bX.pick (M:=(dQ Tryz.prog)) [1,0,2,3,4,5,6,7] [1,0,2,3,4,5,6,7] (om (λ(z6:Value) (q:(List Int)×Bool)=>[.raw l (.loop (j6 ⟨.ready,none,fn0,tm0, #[13],as0,bd0,df0⟩ (PI q.2))),.obj c 125 (aW a0 z_a0),.obj b1 72 (Pt c),.obj b3 76 (.eq z6),.sl z6 73 (.int .u8) q.1,.obj b2 73 (.eq (.int .u8 a1)),.inv z_a0 (cf k a0)]) l (qF (λ(y5:(List Int)) (p7:Int)=>
  (c6 k a0 p7 a1).bind λr9=>
  if r9=true then((cH (bM (length y5+length [p7]))).bind λ_=>
  some (y5++[p7],true)) else(some (y5,true)))) k a0.1 b4 (λz6 q p r' h=>?_) (.slice none 0 0) (([]:(List Int)),false) r8 s) rfl (λ_=>rfl) (λ_=>rfl)
  obtain⟨rq,hq,h2,rfl⟩:=t8 h;obtain⟨y5,b5⟩:=q;obtain rfl:b5=false:=hq;replace h:=bb h2;obtain⟨p7,hpv⟩:∃x,x=p:=⟨_,rfl⟩;subst hpv;refine YT.pick (R':=(λz6:Value=>(.eq (.bool rq.2),[.raw l (.loop (j6 ⟨.ready,none,fn0,tm0, #[13],as0,bd0,df0⟩ (PI (!rq.2)))),.obj c 125 (aW a0 z_a0),.obj b1 72 (Pt c),.obj b3 76 (.eq z6),.sl z6 73 (.int .u8) rq.1,.obj b2 73 (.eq (.int .u8 a1)),.inv z_a0 (cf k a0)]))) [0,1,2,3,4,5,6] [0,1,2,3,4,5,6] (II ha hb (N:=23) (Γ:=[(2,Pt b1),(3,Pt b2),(5,Pt b3)]) rfl hN (by decide) vN (λS w=>?_)) rfl (λ_=>rfl) (λ_=>rfl);refine ae (aq (nl ?_));refine AG rfl rfl ?_;refine ak (sr (fr 2 ?_));refine lo JJ ?_;refine mq ?_;refine fr 5 ?_;refine lo pL ?_;obtain⟨r9,n,h⟩:=aa h;refine fr 6 ?_;refine fr 4 ?_;refine aK (Δ:=[_,_]) (F:=_) (λ_ _ _=>ag rfl _) rfl rfl (aU [.tmp 14,.tmp 15,.tmp 16] rfl rfl Tf rfl (nI k a0 c z_a0 p7 a1 r9 n)) ⟨rfl,rfl,rfl,trivial⟩ λ_=>?_;refine nt (cv h (λh=>?_) (λh=>?_))
  .refine ae (fr 5 ?_);refine lo xq ?_;refine mq ?_;refine ja (bf (t:=(.int .u8)) [(.tmp 19,_)] [p7] rfl rfl JX (.cons rfl .int .nil) rfl rfl) ?_;obtain⟨u,e,h⟩:=aa h;refine fr 6 ?_;refine eh rfl rfl rfl (cx rfl rfl JX (ao e)) ⟨rfl,rfl,trivial⟩ λj=>?_;refine mh λo12=>?_;refine fr 1 ?_;refine aF rfl rfl (aC rfl xq o12 rfl rfl) ⟨rfl,rfl,trivial⟩ ?_;refine aI (aS (bp 3 rfl ?_));refine bp 4 rfl ?_;refine bp 3 rfl ?_;refine bp 3 rfl ?_;refine bp 5 rfl ?_;refine bp 5 rfl ?_;refine bp 6 rfl ?_;cases h;exact pq j 6 rfl
  .refine bi (aS (bp 1 rfl ?_));refine bp 2 rfl ?_;refine bp 6 rfl ?_;refine bp 6 rfl ?_;refine bp 5 rfl ?_;refine bp 5 rfl ?_;refine bp 6 rfl ?_;cases h;exact pq z6 6 rfl
 .
  replace h:=cK (MS hj) h;refine aS (tn (sr (fr 4 ?_)));refine lo xq ?_;refine aq (nt (aE ?_));refine bp 5 rfl ?_;refine bo (iE (off:=0) [4,22] ⟨rfl,rfl,trivial⟩ rfl rfl) ?_;refine bp 1 rfl ?_;refine Ea ?_;refine bo (SE.fin (Γ':=[(4,_)]) [2,5,0,1,3,4] ⟨rfl,trivial⟩ rfl) ?_;cases h;exact aL () [_] 2 ⟨rfl,trivial⟩ rfl
 .
  replace h:=eu (MQ hj) h;cases h
def eB(k:Nat)(r7:(List Int)):Nat->((List (List Int))×Int)->Option (List (List Int))
 |0,_=>none
 |n+1,y8=>
  if y8.2 < (r7.length:Int) then((aV r7 y8.2).bind λh=>
  (f5 k h).bind λc=>
  (cH (bM (length y8.1+length [c]))).bind λ_=>
  (ck (y8.2+1)).bind λe=>
  eB k r7 n (y8.1++[c],e)) else(some y8.1)
def gP(k:Nat)(a0:ab):Option ((List (List Int))×Int):=
 (iT k a0 ([]:(List Int)) ([]:(List Int)) ([]:(List Int)) ([]:(List Int))).bind λr2=>
 fK r2.1 (if¬(r2.2.2=0) then(some (([]:(List (List Int))),r2.2.2)) else(none)) (λq3=>if¬(r2.2.2=0) then(some (([]:(List (List Int))),r2.2.2)) else((((dj k q3 0).bind λr7=>
 eB k r7 k (([]:(List (List Int))),0)):Option ((List (List Int)))).bind λx5=>
 some (x5,0)))
theorem l9(k:Nat)(a0:ab)(r:(List (List Int))×Int)(h:gP k a0=some r):
 bX (dQ Tryz.prog) 11 [.rep am a0] [] (λ_:Unit=>(bJ [.rep (.slice Tl) r.1,I r.2],[])):=by
 unfold gP at h
 replace h:=bb h
 refine bX.of 33 Tryz.func11 rfl Tryz.ntmps11 rfl λS w0=>?_
 refine sr ?_
 refine bx λb1=>?_
 refine cq ?_
 refine cq ?_
 refine nt ?_
 refine sr ?_
 refine lo cV ?_
 obtain⟨r2,M,h⟩:=aa h
 have c:=jI k a0 ([]:(List Int)) ([]:(List Int)) ([]:(List Int)) ([]:(List Int)) r2 M
 rcases hr:r2.1 with _ |q3
 .
  rw [hr] at h c;replace h:=tB h;refine aK (Δ:=[]) (F:=_) (λ_ _ _=>ag rfl _) rfl rfl (bF (N:=[(.tmp 11,.rep am a0),(.const (.slice none 0 0),.eq (.slice none 0 0)),(.const (.slice none 0 0),.eq (.slice none 0 0)),(.const (.slice none 0 0),.eq (.slice none 0 0)),(.const (.slice none 0 0),.eq (.slice none 0 0))]) (aU [.tmp 11,.const (.slice none 0 0),.const (.slice none 0 0),.const (.slice none 0 0),.const (.slice none 0 0)] rfl rfl vW rfl c) λ_ _ _ hn=>⟨hn.1,(aD (t:=Tl) (x:=([]:(List Int))) .nil rfl rfl hn.2.1),(aD (t:=Tl) (x:=([]:(List Int))) .nil rfl rfl hn.2.2.1),(aD (t:=Tl) (x:=([]:(List Int))) .nil rfl rfl hn.2.2.2.1),(aD (t:=Tl) (x:=([]:(List Int))) .nil rfl rfl hn.2.2.2.2.1),trivial⟩) ⟨rfl,rfl,rfl,rfl,rfl,trivial⟩ λ_=>?_;refine mq ?_;refine xr ?_;refine xr ?_;refine xr ?_;refine aq ?_;refine aq ?_;refine aq (nt (aj (sr ?_)));refine mq ?_;refine jb (dW rfl) ?_;refine nt (cn h (λh=>?_) (λh=>?_))
  .refine sr (mq ?_);refine cq ?_;refine aq (nt (rx ?_));refine bo (eH (t:=(.slice Tl)) (x:=([]:(List (List Int)))) 2 rfl .nil rfl rfl) ?_;cases h;exact rb
  .cases h
 .
  rw [hr] at h c;replace h:=tA h;refine aK (Δ:=[]) (F:=_) (λ_ _ _=>ag rfl _) rfl rfl (bF (N:=[(.tmp 11,.rep am a0),(.const (.slice none 0 0),.eq (.slice none 0 0)),(.const (.slice none 0 0),.eq (.slice none 0 0)),(.const (.slice none 0 0),.eq (.slice none 0 0)),(.const (.slice none 0 0),.eq (.slice none 0 0))]) (aU [.tmp 11,.const (.slice none 0 0),.const (.slice none 0 0),.const (.slice none 0 0),.const (.slice none 0 0)] rfl rfl vW rfl c) λ_ _ _ hn=>⟨hn.1,(aD (t:=Tl) (x:=([]:(List Int))) .nil rfl rfl hn.2.1),(aD (t:=Tl) (x:=([]:(List Int))) .nil rfl rfl hn.2.2.1),(aD (t:=Tl) (x:=([]:(List Int))) .nil rfl rfl hn.2.2.2.1),(aD (t:=Tl) (x:=([]:(List Int))) .nil rfl rfl hn.2.2.2.2.1),trivial⟩) ⟨rfl,rfl,rfl,rfl,rfl,trivial⟩ λz4=>?_;refine mq ?_;refine xr ?_;refine xr ?_;refine xr ?_;refine aq ?_;refine aq ?_;refine aq (nt (aj (sr ?_)));refine mq ?_;refine jb (dW rfl) ?_;refine nt (cn h (λh=>?_) (λh=>?_))
  .refine sr (mq ?_);refine cq ?_;refine aq (nt (rx ?_));refine bo (eH (t:=(.slice Tl)) (x:=([]:(List (List Int)))) 2 rfl .nil rfl rfl) ?_;cases h;exact rb
  .refine sk (sr (cq (nt ?_)));refine aN (Z:=Value) (α:=(List (List Int))) (λz6 x5=>[(7,.eq z6)]) (λz6 x5=>[.sl z6 22 Tl x5,.inv z4.2 (cf k q3)]) h (λK h=>?_) (λz6 x5 h=>?_)
   .refine sr (mq ?_);obtain⟨r7,J,h⟩:=aa h;refine fr 1 ?_;refine fr 1 ?_;refine aK (Δ:=[_,_]) (F:=_) (λ_ _ _=>ag rfl _) rfl rfl (aU [.tmp 19,.const (.int .u8 (0))] rfl rfl Lm rfl (fu k q3 z4.1 z4.2 0 r7 J)) ⟨rfl,rfl,trivial⟩ λ_=>?_;refine ol yI ?_;refine fq rfl ?_;refine nt (ak (iJ (SE.nil 22 Tl) ?_));refine aM (λz9 y8=>[(7,.eq z9),(20,.rep (.slice (.int .u8)) r7),(21,I (r7.length:Int)),(22,I y8.2)]) (λz9 y8=>[.sl z9 22 Tl y8.1,.inv z4.2 (cf k q3)]) (eB k r7) k (.slice none 0 0) (([]:(List (List Int))),0) (λ_=>rfl) h (SE.fin [0,2] ⟨rfl,rfl,rfl,rfl,trivial⟩ rfl) (λn z9 y8 h=>?_);unfold eB at h;refine sr (jb (bO rfl) ?_);refine nt (aj (ci h (λh=>?_) (λh=>?_)))
    .refine sk (aj (ak (sr ?_)));obtain⟨D,l,h⟩:=aa h;refine jb (ba (t:=(.int .u8)) rfl yI pL l) ?_;refine ja (aA (t:=(.int .u8)) rfl pL rfl) ?_;refine aq (nt (ae ?_));iterate 2 refine mq ?_
     obtain⟨e,u,h⟩:=aa h;refine ja (ay [.tmp 27] rfl rfl OJ rfl (kg k D e u)) ?_;refine ja (bf (t:=Tl) [(.tmp 28,_)] [e] rfl rfl pw (.cons rfl .rep .nil) rfl rfl) ?_;obtain⟨O,s,h⟩:=aa h;refine eh rfl rfl rfl (cx rfl rfl pw (ao s)) ⟨rfl,rfl,trivial⟩ λE=>?_;refine aq (aI (aS (tn (ae ?_))));obtain⟨y,j,h⟩:=aa h;refine jb (bH rfl j) ?_;refine mq (nl ?_);exact jz (E,(y8.1++[e],y)) h [0,1]
    .refine xa ?_;exact jz (z9,y8.1) h [0,1]
   .refine sr (mq ?_);refine aq ?_;refine cq (nt (aE ?_));refine bo (ju [2,7,32] ⟨rfl,rfl,rfl,trivial⟩) ?_;cases h;exact rb
def eA(k:Nat)(a0:ab)(r5:(List (List Int)))(x9:Int):Nat->((List (List Int))×Int)->Option (List (List Int))
 |0,_=>none
 |n+1,c=>
  if c.2 < x9 then((aV r5 c.2).bind λj=>
  (cH (0≤a0.1/\a0.1≤5)).bind λ_=>
  (ie k (List.take (Int.toNat a0.1) j)).bind λe=>
  (cH (bM (length c.1+length [e]))).bind λ_=>
  (ck (c.2+1)).bind λh=>
  eA k a0 r5 x9 n (c.1++[e],h)) else(some c.1)
def jl(k:Nat)(a0:ab)(a1:(List Int)):Option ((List (List Int))×Int):=
 (iT k a0 a1 ([]:(List Int)) ([]:(List Int)) ([]:(List Int))).bind λr2=>
 fK r2.1 (if¬(r2.2.2=0) then(some (([]:(List (List Int))),r2.2.2)) else(none)) (λq3=>if¬(r2.2.2=0) then(some (([]:(List (List Int))),r2.2.2)) else((lM k q3 r2.2.1).bind λr5=>
 (((ck ((a0.2.2.2.2.1.length:Int)+1)).bind λx9=>
 eA k a0 r5 x9 k (([]:(List (List Int))),0)):Option ((List (List Int)))).bind λx7=>
 some (x7,0)))
theorem pD(k:Nat)(a0:ab)(a1:(List Int))(r:(List (List Int))×Int)(h:jl k a0 a1=some r):
 bX (dQ Tryz.prog) 12 [.rep am a0,.rep Tl a1] [] (λ_:Unit=>(bJ [.rep (.slice Tl) r.1,I r.2],[])):=by
 unfold jl at h
 replace h:=bb h
 refine bX.of 43 Tryz.func12 rfl Tryz.ntmps12 rfl λS w0=>?_
 refine sr ?_
 refine bx λb1=>?_
 refine cq ?_
 refine cq ?_
 refine nt ?_
 refine sr ?_
 refine lo cV ?_
 refine mq ?_
 obtain⟨r2,X,h⟩:=aa h
 have j:=jI k a0 a1 ([]:(List Int)) ([]:(List Int)) ([]:(List Int)) r2 X
 rcases hr:r2.1 with _ |q3
 .
  rw [hr] at h j;replace h:=tB h;refine aK (Δ:=[]) (F:=_) (λ_ _ _=>ag rfl _) rfl rfl (bF (N:=[(.tmp 13,.rep am a0),(.tmp 14,.rep Tl a1),(.const (.slice none 0 0),.eq (.slice none 0 0)),(.const (.slice none 0 0),.eq (.slice none 0 0)),(.const (.slice none 0 0),.eq (.slice none 0 0))]) (aU [.tmp 13,.tmp 14,.const (.slice none 0 0),.const (.slice none 0 0),.const (.slice none 0 0)] rfl rfl vW rfl j) λ_ _ _ hn=>⟨hn.1,hn.2.1,(aD (t:=Tl) (x:=([]:(List Int))) .nil rfl rfl hn.2.2.1),(aD (t:=Tl) (x:=([]:(List Int))) .nil rfl rfl hn.2.2.2.1),(aD (t:=Tl) (x:=([]:(List Int))) .nil rfl rfl hn.2.2.2.2.1),trivial⟩) ⟨rfl,rfl,rfl,rfl,rfl,trivial⟩ λ_=>?_;refine mq ?_;refine xr ?_;refine xr ?_;refine xr ?_;refine aq ?_;refine aq ?_;refine aq (nt (aj (sr ?_)));refine mq ?_;refine jb (dW rfl) ?_;refine nt (cn h (λh=>?_) (λh=>?_))
  .refine sr (mq ?_);refine cq ?_;refine aq (nt (rx ?_));refine bo (eH (t:=(.slice Tl)) (x:=([]:(List (List Int)))) 4 rfl .nil rfl rfl) ?_;cases h;exact rb
  .cases h
 .
  rw [hr] at h j;replace h:=tA h;refine aK (Δ:=[]) (F:=_) (λ_ _ _=>ag rfl _) rfl rfl (bF (N:=[(.tmp 13,.rep am a0),(.tmp 14,.rep Tl a1),(.const (.slice none 0 0),.eq (.slice none 0 0)),(.const (.slice none 0 0),.eq (.slice none 0 0)),(.const (.slice none 0 0),.eq (.slice none 0 0))]) (aU [.tmp 13,.tmp 14,.const (.slice none 0 0),.const (.slice none 0 0),.const (.slice none 0 0)] rfl rfl vW rfl j) λ_ _ _ hn=>⟨hn.1,hn.2.1,(aD (t:=Tl) (x:=([]:(List Int))) .nil rfl rfl hn.2.2.1),(aD (t:=Tl) (x:=([]:(List Int))) .nil rfl rfl hn.2.2.2.1),(aD (t:=Tl) (x:=([]:(List Int))) .nil rfl rfl hn.2.2.2.2.1),trivial⟩) ⟨rfl,rfl,rfl,rfl,rfl,trivial⟩ λz4=>?_;refine mq ?_;refine xr ?_;refine xr ?_;refine xr ?_;refine aq ?_;refine aq ?_;refine aq (nt (aj (sr ?_)));refine mq ?_;refine jb (dW rfl) ?_;refine nt (cn h (λh=>?_) (λh=>?_))
  .refine sr (mq ?_);refine cq ?_;refine aq (nt (rx ?_));refine bo (eH (t:=(.slice Tl)) (x:=([]:(List (List Int)))) 4 rfl .nil rfl rfl) ?_;cases h;exact rb
  .refine sk (sr (cq (nt (sr ?_))));iterate 2 refine mq ?_
   obtain⟨r5,U,h⟩:=aa h;refine fr 1 ?_;refine fr 1 ?_;refine aK (Δ:=[_,_]) (F:=_) (λ_ _ _=>ag rfl _) rfl rfl (aU [.tmp 22,.tmp 23] rfl rfl ES rfl (o8 k q3 z4.1 z4.2 r2.2.1 r5 U)) ⟨rfl,rfl,trivial⟩ λ_=>?_;refine aQ rfl rfl rfl (aX rfl FD ID) trivial λb6=>?_;refine aF rfl rfl (aC rfl Gn rfl rfl rfl) ⟨rfl,rfl,trivial⟩ ?_;refine eJ (jt (t:=(.arr 7 Tr)) (x:=r5) [10] .rep ⟨rfl,trivial⟩) ?_;refine nt (aN (Z:=Value) (α:=(List (List Int))) (λz8 x7=>[(9,.eq z8)]) (λz8 x7=>[.sl z8 22 Tl x7,.inv z4.2 (cf k q3)]) h (λK h=>?_) (λz8 x7 h=>?_))
   .refine sr (fl cU ?_);refine fr 2 ?_;refine lo ic ?_;refine ol tX ?_;obtain⟨x9,Q,h⟩:=aa h;refine jb (bH rfl Q) ?_;refine fq rfl ?_;refine nt (ak (iJ (SE.nil 22 Tl) ?_));refine aM (λe c=>[(2,Pt b1),(9,.eq e),(10,.at (.arr 7 Tr) r5),(28,I x9),(29,I c.2)]) (λe c=>[.obj b1 26 (.rep am a0),.sl e 22 Tl c.1,.inv z4.2 (cf k q3)]) (eA k a0 r5 x9) k (.slice none 0 0) (([]:(List (List Int))),0) (λ_=>rfl) h (SE.fin [1,0,3] ⟨rfl,rfl,rfl,rfl,rfl,trivial⟩ rfl) (λn e c h=>?_);unfold eA at h;refine sr (jb (bO rfl) ?_);refine nt (aj (ci h (λh=>?_) (λh=>?_)))
    .refine sk (aj (ak (sr (mq ?_))));refine aq (nt ?_);refine cG ?_;refine dm ?_;refine dm ?_;obtain⟨M,y,h⟩:=aa h;refine db (cp (t:=Tr) rfl Jm je y) ?_;refine da (ap rfl fG) ?_;refine ea 0 (an rfl cJ jj rfl) ?_;obtain⟨gw,l,h⟩:=aa h;refine db (vH (t:=Ti) rfl CB cJ (ao l).1 (ao l).2) ?_;obtain⟨s,E,h⟩:=aa h;refine da (yw (ay [.tmp 37] rfl rfl TB rfl (rG k (List.take (Int.toNat a0.1) M) s E))) ?_;refine da (bf (t:=Tl) [(.tmp 38,_)] [s] rfl rfl pw (.cons rfl .rep .nil) rfl rfl) ?_;refine df dZ ?_;obtain⟨Y,D,h⟩:=aa h;refine fr 1 ?_;refine eh rfl rfl rfl (cx rfl rfl pw (ao D)) ⟨rfl,rfl,trivial⟩ λO=>?_;refine aq (aI (aS (tn (ae ?_))));obtain⟨J,u,h⟩:=aa h;refine jb (bH rfl u) ?_;refine mq (nl ?_);exact jz (O,(c.1++[s],J)) h [1,0,2]
    .refine xa ?_;exact jz (e,c.1) h [1,2]
   .refine sr (mq ?_);refine aq ?_;refine cq (nt (aE ?_));refine bo (ju [4,9,42] ⟨rfl,rfl,rfl,trivial⟩) ?_;cases h;exact rb
def mF(k:Nat)(a0:ab)(a1:(List Int))(a2:(List Int))(a3:(List Int)):Option ((Option ab)×(List Int)×Int):=
 (iT k a0 ([]:(List Int)) a1 a2 a3).bind λr2=>
 fK r2.1 (if¬(r2.2.2=0) then(some (none,([]:(List Int)),r2.2.2)) else(none)) (λq3=>if¬(r2.2.2=0) then(some (none,([]:(List Int)),r2.2.2)) else((dj k q3 0).bind λr5=>
 if(r5.length:Int)=0 then(some (none,([]:(List Int)),9)) else(some (some q3,r5,0))))
theorem ni(k:Nat)(a0:ab)(a1:(List Int))(a2:(List Int))(a3:(List Int))(r:(Option ab)×(List Int)×Int)(h:mF k a0 a1 a2 a3=some r):
 bX (dQ Tryz.prog) 42 [.rep am a0,.rep Tl a1,.rep Tl a2,.rep Tl a3] [] (λz:Nat×Nat=>(bJ [J7 r.1 z.1,.rep (.slice (.int .u8)) r.2.1,I r.2.2],J6 r.1 λq=>qy q z.1 z.2 k)):=by
 unfold mF at h
 replace h:=bb h
 refine bX.of 34 Tryz.func42 rfl Tryz.ntmps42 rfl λS w0=>?_
 refine sr ?_
 refine bx λb1=>?_
 refine cq ?_
 refine cq ?_
 refine cq ?_
 refine nt ?_
 refine sr ?_
 refine lo cV ?_
 iterate 3 refine mq ?_
 obtain⟨r2,j,h⟩:=aa h
 have c:=jI k a0 ([]:(List Int)) a1 a2 a3 r2 j
 rcases hr:r2.1 with _ |q3
 .
  rw [hr] at h c;replace h:=tB h;refine aK (Δ:=[]) (F:=_) (λ_ _ _=>ag rfl _) rfl rfl (bF (N:=[(.tmp 16,.rep am a0),(.const (.slice none 0 0),.eq (.slice none 0 0)),(.tmp 17,.rep Tl a1),(.tmp 18,.rep Tl a2),(.tmp 19,.rep Tl a3)]) (aU [.tmp 16,.const (.slice none 0 0),.tmp 17,.tmp 18,.tmp 19] rfl rfl vW rfl c) λ_ _ _ hn=>⟨hn.1,(aD (t:=Tl) (x:=([]:(List Int))) .nil rfl rfl hn.2.1),hn.2.2.1,hn.2.2.2.1,hn.2.2.2.2.1,trivial⟩) ⟨rfl,rfl,rfl,rfl,rfl,trivial⟩ λ_=>?_;refine mq ?_;refine xr ?_;refine xr ?_;refine xr ?_;refine aq ?_;refine aq ?_;refine aq (nt (aj (sr ?_)));refine mq ?_;refine jb (dW rfl) ?_;refine nt (cn h (λh=>?_) (λh=>?_))
  .refine sr (mq ?_);refine cq ?_;refine cq ?_;refine aq (nt (rx ?_));refine bo (eH (t:=(.slice (.int .u8))) (x:=([]:(List Int))) 9 rfl .nil rfl rfl) ?_;cases h;exact aL (0,0) [.eq (.pointer none),_,_] 0 ⟨rfl,rfl,rfl,trivial⟩ rfl
  .cases h
 .
  rw [hr] at h c;replace h:=tA h;refine aK (Δ:=[]) (F:=_) (λ_ _ _=>ag rfl _) rfl rfl (bF (N:=[(.tmp 16,.rep am a0),(.const (.slice none 0 0),.eq (.slice none 0 0)),(.tmp 17,.rep Tl a1),(.tmp 18,.rep Tl a2),(.tmp 19,.rep Tl a3)]) (aU [.tmp 16,.const (.slice none 0 0),.tmp 17,.tmp 18,.tmp 19] rfl rfl vW rfl c) λ_ _ _ hn=>⟨hn.1,(aD (t:=Tl) (x:=([]:(List Int))) .nil rfl rfl hn.2.1),hn.2.2.1,hn.2.2.2.1,hn.2.2.2.2.1,trivial⟩) ⟨rfl,rfl,rfl,rfl,rfl,trivial⟩ λz4=>?_;refine mq ?_;refine xr ?_;refine xr ?_;refine xr ?_;refine aq ?_;refine aq ?_;refine aq (nt (aj (sr ?_)));refine mq ?_;refine jb (dW rfl) ?_;refine nt (cn h (λh=>?_) (λh=>?_))
  .refine sr (mq ?_);refine cq ?_;refine cq ?_;refine aq (nt (rx ?_));refine bo (eH (t:=(.slice (.int .u8))) (x:=([]:(List Int))) 9 rfl .nil rfl rfl) ?_;cases h;exact aL (0,0) [.eq (.pointer none),_,_] 0 ⟨rfl,rfl,rfl,trivial⟩ rfl
  .refine sk (sr (mq ?_));obtain⟨r5,e,h⟩:=aa h;refine fr 1 ?_;refine fr 1 ?_;refine aK (Δ:=[_,_]) (F:=_) (λ_ _ _=>ag rfl _) rfl rfl (aU [.tmp 27,.const (.int .u8 (0))] rfl rfl Lm rfl (fu k q3 z4.1 z4.2 0 r5 e)) ⟨rfl,rfl,trivial⟩ λ_=>?_;refine aq (nt (aj (sr ?_)));refine mq ?_;refine ol yI ?_;refine jb (hJ rfl) ?_;refine nt (ci h (λh=>?_) (λh=>?_))
   .refine sr (cq ?_);refine cq ?_;refine cq (nt (rx ?_));refine bo (eH (t:=(.slice (.int .u8))) (x:=([]:(List Int))) 9 rfl .nil rfl rfl) ?_;cases h;exact aL (0,0) [.eq (.pointer none),_,_] 0 ⟨rfl,rfl,rfl,trivial⟩ rfl
   .refine sk (sr ?_);iterate 2 refine mq ?_
    refine aq ?_;refine aq ?_;refine cq (nt (aE ?_));cases h;exact aL (z4.1,z4.2) [.eq (.pointer (some ⟨z4.1,0,none⟩)),_,_] 2 ⟨rfl,rfl,rfl,trivial⟩ rfl
def f7(k:Nat)(a2:Int)(r1:(List (List Int)))(x5:Int):Nat->Int->Option (Except Int Unit)
 |0,_=>none
 |n+1,y6=>
  if y6 < x5 then((aV r1 y6).bind λx8=>
  (aV x8 a2).bind λx9=>
  if 0≤x9 then(some (.error y6)) else((ck (y6+1)).bind λc=>
  f7 k a2 r1 x5 n c)) else(some (.ok ()))
def iw(k:Nat)(a0:ab)(a1:Int)(a2:Int):Option Int:=
 (lM k a0 a1).bind λr1=>
 bE (α:=Unit) ((ck ((a0.2.2.2.2.1.length:Int)+1)).bind λx5=>
 f7 k a2 r1 x5 k 0) (some) λ_=>
 some (-1:Int)
theorem ll(k:Nat)(a0:ab)(c z_a0:Nat)(a1:Int)(a2:Int)(r:Int)(h:iw k a0 a1 a2=some r):
 bX (dQ Tryz.prog) 44 [Pt c,.eq (.int .u8 a1),I a2] [.obj c 125 (aW a0 z_a0),.inv z_a0 (cf k a0)] (λ_:Unit=>(bJ [I r],[.obj c 125 (aW a0 z_a0),.inv z_a0 (cf k a0)])):=by
 unfold iw at h
 replace h:=bb h
 refine bX.of 30 Tryz.func44 rfl Tryz.ntmps44 rfl λS w0=>?_
 refine sr ?_
 refine cq ?_
 refine nt ?_
 refine sr ?_
 iterate 2 refine mq ?_
 obtain⟨r1,D,h⟩:=aa h
 have E:=o8 k a0 c z_a0 a1 r1 D
 refine fr 1 ?_
 refine fr 1 ?_
 refine aK (Δ:=[_,_]) (F:=_) (λ_ _ _=>ag rfl _) rfl rfl (aU [.tmp 9,.tmp 10] rfl rfl ES rfl E) ⟨rfl,rfl,trivial⟩ λ_=>?_
 refine aQ rfl rfl rfl (aX rfl FD ID) trivial λb2=>?_
 refine aF rfl rfl (aC rfl Gn rfl rfl rfl) ⟨rfl,rfl,trivial⟩ ?_
 refine eJ (jt (t:=(.arr 7 Tr)) (x:=r1) [7] .rep ⟨rfl,trivial⟩) ?_
 refine nt ?_
 refine dG (Z:=Unit) (α:=Unit) (λz4 x3=>[]) (λz4 x3=>[.obj c 125 (aW a0 z_a0),.inv z_a0 (cf k a0)]) (λe=>e=r) h (λe h=>Option.some.inj h) (λK hR h=>?_) (λz4 x3 h=>?_)
 .
  refine sr (mq ?_);refine ja (cL rfl) ?_;refine fl g7 ?_;refine fl cU ?_;refine lo ic ?_;refine ol tX ?_;obtain⟨x5,y,h⟩:=aa h;refine jb (bH rfl y) ?_;refine fq rfl ?_;refine nt (ak (aM (λz7 y6=>[(2,I a2),(7,.at (.arr 7 Tr) r1),(18,I x5),(19,I y6)]) (λz7 y6=>[.obj c 125 (aW a0 z_a0),.inv z_a0 (cf k a0)]) (f7 k a2 r1 x5) k () 0 (λ_=>rfl) h (SE.fin [0,1] ⟨rfl,rfl,rfl,rfl,trivial⟩ rfl) (λn z7 y6 h=>?_)));unfold f7 at h;refine sr (jb (bO rfl) ?_);refine nt (aj (ci h (λh=>?_) (λh=>?_)))
  .refine sk (aj (ak (sr (mq ?_))));refine aq (nt (sr ?_));iterate 2 refine mq ?_
   obtain⟨x8,u,h⟩:=aa h;refine jb (cp (t:=Tr) rfl Jm je u) ?_;obtain⟨x9,s,h⟩:=aa h;refine jb (cp (t:=Ti) rfl CB cJ s) ?_;refine ja (aA (t:=Ti) rfl cJ rfl) ?_;refine jb (kp rfl) ?_;refine nt (ci h (λh=>?_) (λh=>?_))
   .refine sr (mq ?_);refine aq (nt (aE (br (bL (bz ?_)))));obtain rfl:=hR _ h;exact aL () [_] 2 ⟨rfl,trivial⟩ rfl
   .refine bi (aS (tn (ae ?_)));obtain⟨l,j,h⟩:=aa h;refine jb (bH rfl j) ?_;refine mq (nl ?_);exact jz ((),l) h [0,1]
  .refine xa ?_;exact jz ((),()) h [0,1]
 .
  refine sr (cq (nt (aE ?_)));cases h;exact aL () [_] 2 ⟨rfl,trivial⟩ rfl
def kB(k:Nat)(a1:Int)(r3:(Option ab)×(List Int)×Int)(q4:ab):Nat->((List Int)×Int)->Option (List Int)
 |0,_=>none
 |n+1,y8=>
  if y8.2 < (r3.2.1.length:Int) then((((aV r3.2.1 y8.2).bind λh=>
  (iw k q4 h a1).bind λc=>
  if 0≤c then((cH (bM (length y8.1+length [c]))).bind λ_=>
  some (y8.1++[c])) else(some y8.1)):Option ((List Int))).bind λj=>
  (ck (y8.2+1)).bind λe=>
  kB k a1 r3 q4 n (j,e)) else(some y8.1)
def rY(k:Nat)(a0:ab)(a1:Int):Option (fJ×Int):=
 (mF k a0 [a1] ([]:(List Int)) ([]:(List Int))).bind λr3=>
 fK r3.1 (if¬(r3.2.2=0) then(some ((0,0),r3.2.2)) else(none)) (λq4=>if¬(r3.2.2=0) then(some ((0,0),r3.2.2)) else(((kB k a1 r3 q4 k (([]:(List Int)),0)):Option ((List Int))).bind λx6=>
 if(x6.length:Int)=0 then(some ((0,0),11)) else((lO k x6).bind λe=>
 (nT k x6).bind λc=>
 some ((e,c),0))))
theorem xQ(k:Nat)(a0:ab)(a1:Int)(r:fJ×Int)(h:rY k a0 a1=some r):
 bX (dQ Tryz.prog) 15 [.rep am a0,I a1] [] (λ_:Unit=>(bJ [.rep bS r.1,I r.2],[])):=by
 unfold rY at h
 replace h:=bb h
 refine bX.of 51 Tryz.func15 rfl Tryz.ntmps15 rfl λS w0=>?_
 refine sr ?_
 refine bx λb1=>?_
 refine aQ rfl rfl rfl (aX rfl AT Q8) trivial λb2=>?_
 refine cq ?_
 refine nt ?_
 refine sr ?_
 refine fr 1 ?_
 refine lo cV ?_
 refine mq ?_
 refine ja (bf (t:=Ti) [(.tmp 15,_)] [a1] rfl rfl ec (.cons rfl .int .nil) rfl rfl) ?_
 obtain⟨r3,Y,h⟩:=aa h
 have s:=ni k a0 [a1] ([]:(List Int)) ([]:(List Int)) r3 Y
 rcases hr:r3.1 with _ |q4
 .
  rw [hr] at h s;replace h:=tB h;refine aK (Δ:=[]) (F:=_) (λ_ _ _=>ag rfl _) rfl rfl (bF (N:=[(.tmp 14,.rep am a0),(.tmp 16,.rep Tl [a1]),(.const (.slice none 0 0),.eq (.slice none 0 0)),(.const (.slice none 0 0),.eq (.slice none 0 0))]) (aU [.tmp 14,.tmp 16,.const (.slice none 0 0),.const (.slice none 0 0)] rfl rfl ER rfl s) λ_ _ _ hn=>⟨hn.1,hn.2.1,(aD (t:=Tl) (x:=([]:(List Int))) .nil rfl rfl hn.2.2.1),(aD (t:=Tl) (x:=([]:(List Int))) .nil rfl rfl hn.2.2.2.1),trivial⟩) ⟨rfl,rfl,rfl,rfl,trivial⟩ λ_=>?_;refine mq ?_;refine xr ?_;refine xr ?_;refine xr ?_;refine aq ?_;refine aq ?_;refine aq (nt (aj (sr ?_)));refine mq ?_;refine jb (dW rfl) ?_;refine nt (cn h (λh=>?_) (λh=>?_))
  .refine sr (bZ rfl (cR [] rfl GU AT Aq (gA trivial) rfl) trivial ?_);refine mq ?_;refine fr 1 ?_;refine aF rfl rfl (aC rfl vF trivial rfl rfl) ⟨rfl,rfl,trivial⟩ ?_;refine aq (nt (rx ?_));refine bo (dT (a:=.agg (.pair (I 0) (I 0))) (a':=.rep bS (0,0)) (fp (.agg (.pair .int .int)))) ?_;cases h;exact aL () [.rep bS (0,0),_] 0 ⟨⟨_,_,_,_,_,rfl,(.head _),vF,(nK),rfl⟩,rfl,trivial⟩ rfl
  .cases h
 .
  rw [hr] at h s;replace h:=tA h;refine aK (Δ:=[]) (F:=_) (λ_ _ _=>ag rfl _) rfl rfl (bF (N:=[(.tmp 14,.rep am a0),(.tmp 16,.rep Tl [a1]),(.const (.slice none 0 0),.eq (.slice none 0 0)),(.const (.slice none 0 0),.eq (.slice none 0 0))]) (aU [.tmp 14,.tmp 16,.const (.slice none 0 0),.const (.slice none 0 0)] rfl rfl ER rfl s) λ_ _ _ hn=>⟨hn.1,hn.2.1,(aD (t:=Tl) (x:=([]:(List Int))) .nil rfl rfl hn.2.2.1),(aD (t:=Tl) (x:=([]:(List Int))) .nil rfl rfl hn.2.2.2.1),trivial⟩) ⟨rfl,rfl,rfl,rfl,trivial⟩ λz5=>?_;refine mq ?_;refine xr ?_;refine xr ?_;refine xr ?_;refine aq ?_;refine aq ?_;refine aq (nt (aj (sr ?_)));refine mq ?_;refine jb (dW rfl) ?_;refine nt (cn h (λh=>?_) (λh=>?_))
  .refine sr (bZ rfl (cR [] rfl GU AT Aq (gA trivial) rfl) trivial ?_);refine mq ?_;refine fr 3 ?_;refine aF rfl rfl (aC rfl vF trivial rfl rfl) ⟨rfl,rfl,trivial⟩ ?_;refine aq (nt (rx ?_));refine bo (dT (a:=.agg (.pair (I 0) (I 0))) (a':=.rep bS (0,0)) (fp (.agg (.pair .int .int)))) ?_;cases h;exact aL () [.rep bS (0,0),_] 0 ⟨⟨_,_,_,_,_,rfl,(.head _),vF,(nK),rfl⟩,rfl,trivial⟩ rfl
  .refine sk (sr (cq (nt ?_)));refine aN (Z:=Value) (α:=(List Int)) (λz7 x6=>[(4,Pt b2),(9,.eq z7)]) (λz7 x6=>[.obj b2 39 (.agg (.pair (I 0) (I 0))),.sl z7 3 Ti x6,.inv z5.2 (cf k q4)]) h (λK h=>?_) (λz7 x6 h=>?_)
   .refine sr (mq ?_);refine ol yI ?_;refine fq rfl ?_;refine nt (ak (iJ (SE.nil 3 Ti) ?_));refine aM (λz9 y8=>[(1,I a1),(4,Pt b2),(6,.eq (.pointer (some ⟨z5.1,0,none⟩))),(9,.eq z9),(25,.rep (.slice (.int .u8)) r3.2.1),(26,I (r3.2.1.length:Int)),(27,I y8.2)]) (λz9 y8=>[.obj b2 39 (.agg (.pair (I 0) (I 0))),.obj z5.1 125 (aW q4 z5.2),.sl z9 3 Ti y8.1,.inv z5.2 (cf k q4)]) (kB k a1 r3 q4) k (.slice none 0 0) (([]:(List Int)),0) (λ_=>rfl) h (SE.fin [4,1,0,2] ⟨rfl,rfl,rfl,rfl,rfl,rfl,rfl,trivial⟩ rfl) (λn z9 y8 h=>?_);unfold kB at h;refine sr (jb (bO rfl) ?_);refine nt (aj (ci h (λh=>?_) (λh=>?_)))
    .refine sk (aN (Z:=Value) (α:=(List Int)) (λc e=>[(1,I a1),(4,Pt b2),(6,.eq (.pointer (some ⟨z5.1,0,none⟩))),(9,.eq c),(25,.rep (.slice (.int .u8)) r3.2.1),(26,I (r3.2.1.length:Int)),(27,I y8.2)]) (λc e=>[.obj b2 39 (.agg (.pair (I 0) (I 0))),.obj z5.1 125 (aW q4 z5.2),.sl c 3 Ti e,.inv z5.2 (cf k q4)]) h (λK h=>?_) (λc e h=>?_))
     .refine ak (sr ?_);obtain⟨U,D,h⟩:=aa h;refine jb (ba (t:=(.int .u8)) rfl yI pL D) ?_;refine ja (aA (t:=(.int .u8)) rfl pL rfl) ?_;refine aq (nt (sr ?_));iterate 3 refine mq ?_
      obtain⟨u,O,h⟩:=aa h;refine fr 3 ?_;refine fr 2 ?_;refine aK (Δ:=[_,_]) (F:=_) (λ_ _ _=>ag rfl _) rfl rfl (aU [.tmp 31,.tmp 32,.tmp 33] rfl rfl QO rfl (ll k q4 z5.1 z5.2 U a1 u O)) ⟨rfl,rfl,rfl,trivial⟩ λ_=>?_;refine aq (nt (sr ?_));refine mq ?_;refine jb (kp rfl) ?_;refine nt (ci h (λh=>?_) (λh=>?_))
      .refine ae ?_;iterate 2 refine mq ?_
       refine ja (bf (t:=Ti) [(.tmp 38,_)] [u] rfl rfl ec (.cons rfl .int .nil) rfl rfl) ?_;obtain⟨gw,E,h⟩:=aa h;refine fr 3 ?_;refine eh rfl rfl rfl (cx rfl rfl ec (ao E)) ⟨rfl,rfl,trivial⟩ λX=>?_;refine aq (aI (bn ?_));exact jz (X,y8.1++[u]) h [3,1,0,2]
      .refine bi (bn ?_);exact jz (z9,y8.1) h [2,0,3,1]
     .refine ae ?_;obtain⟨Q,y,h⟩:=aa h;refine jb (bH rfl y) ?_;refine mq (nl ?_);exact jz (c,(e,Q)) h [0,1,2,3]
    .refine xa ?_;exact jz (z9,y8.1) h [0,2,3]
   .refine aj (sr (mq ?_));refine fr 1 ?_;refine ka (mA rfl rfl jr) ?_;refine jb (hJ rfl) ?_;refine nt (ci h (λh=>?_) (λh=>?_))
    .refine sr (bZ rfl (cR [] rfl GU AT Aq (gA trivial) rfl) trivial ?_);refine fr 1 ?_;refine aF rfl rfl (aC rfl vF trivial rfl rfl) ⟨rfl,rfl,trivial⟩ ?_;refine cq (nt (rx ?_));refine bo (dT (a:=.agg (.pair (I 0) (I 0))) (a':=.rep bS (0,0)) (fp (.agg (.pair .int .int)))) ?_;cases h;exact aL () [.rep bS (0,0),_] 0 ⟨⟨_,_,_,_,_,rfl,(.head _),vF,(nK),rfl⟩,rfl,trivial⟩ rfl
    .refine sk (sr (mq ?_));obtain⟨l,M,h⟩:=aa h;refine ka (lF (N:=[(.tmp 46,.eq z7)]) (ay [.tmp 46] rfl rfl QN rfl (nS k x6 l M)) (λ_ _ _ hv hn=>⟨(lend hn.1 hv),trivial⟩) (λ_=>⟨rfl,ox⟩)) ?_;refine mq ?_;obtain⟨j,J,h⟩:=aa h;refine ka (lF (N:=[(.tmp 48,.eq z7)]) (ay [.tmp 48] rfl rfl TA rfl (ud k x6 j J)) (λ_ _ _ hv hn=>⟨(lend hn.1 hv),trivial⟩) (λ_=>⟨rfl,ox⟩)) ?_;refine jb (cR [(0,.tmp 47,_),(1,.tmp 49,_)] rfl GU AT Aq (gA ⟨rfl,rfl,trivial⟩) rfl) ?_;refine fr 1 ?_;refine aF rfl rfl (aC rfl vF trivial rfl rfl) ⟨rfl,rfl,trivial⟩ ?_;refine cq (nt (aE ?_));refine bo (dT (a:=.agg (.pair (I l) (I j))) (a':=.rep bS (l,j)) (fp (.agg (.pair .int .int)))) ?_;cases h;exact aL () [.rep bS (l,j),_] 0 ⟨⟨_,_,_,_,_,rfl,(.head _),vF,(nK),rfl⟩,rfl,trivial⟩ rfl
def gu(k:Nat)(r2:(List (List Int)))(y6:Int×Int×(List (eN×eN))):Nat->Int->Option Int
 |0,_=>none
 |n+1,c=>
  ((if 0 < c then((ck (c - 1)).bind λl=>
  (aV r2 l).bind λj=>
  (aV j y6.1).bind λh=>
  some (decide (0≤h))) else(some false)):Option (Bool)).bind λr=>
  if r=true then((ck (c - 1)).bind λe=>
  gu k r2 y6 n e) else(some c)
def gx(k:Nat)(a0:ab)(r2:(List (List Int))):Nat->(Int×Int×(List (eN×eN)))->Option (List (fJ×fJ))
 |0,_=>none
 |n+1,y6=>
  bE (α:=Int×Int×(List (eN×eN))) (((gu k r2 y6 k y6.2.1):Option (Int)).bind λc=>
  if c=0 then((cH (yY (y6.1,y6.2.1))).bind λ_=>
  some (.error (BA y6.2.2 (y6.1,y6.2.1) ((-1:Int),0)))) else((ck (c - 1)).bind λr=>
  (aV r2 r).bind λl=>
  (ck (c - 1)).bind λj=>
  (dy k a0 l y6.1 j).bind λh=>
  (ck (c - 1)).bind λe=>
  (cH (yY (y6.1,y6.2.1))).bind λ_=>
  some (.ok (h,e,BA y6.2.2 (y6.1,y6.2.1) (h,e))))) (some) λx8=>
  gx k a0 r2 n (x8.1,x8.2.1,x8.2.2)
def lq(k:Nat)(a0:ab)(a1:Int)(a2:fJ):Option (List (fJ×fJ)):=
 (lM k a0 a1).bind λr2=>
 gx k a0 r2 k (a2.1,a2.2,([]:List (eN×eN)))
theorem qS(k:Nat)(a0:ab)(c z_a0:Nat)(a1:Int)(a2:fJ)(r:(List (fJ×fJ)))(h:lq k a0 a1 a2=some r):
 bX (dQ Tryz.prog) 80 [Pt c,.eq (.int .u8 a1),.rep bS a2] [.obj c 125 (aW a0 z_a0),.inv z_a0 (cf k a0)] (λz:Nat=>(bJ [.eq (.map (some z))],[.inv z (tc r),.obj c 125 (aW a0 z_a0),.inv z_a0 (cf k a0)])):=by
 unfold lq at h
 replace h:=bb h
 refine bX.of 56 Tryz.func80 rfl Tryz.ntmps80 rfl λS w0=>?_
 refine sr ?_
 refine bx λb1=>?_
 refine cq ?_
 refine nt ?_
 refine sr ?_
 iterate 2 refine mq ?_
 obtain⟨r2,UY,h⟩:=aa h
 have UZ:=o8 k a0 c z_a0 a1 r2 UY
 refine fr 2 ?_
 refine fr 2 ?_
 refine aK (Δ:=[_,_]) (F:=_) (λ_ _ _=>ag rfl _) rfl rfl (aU [.tmp 12,.tmp 13] rfl rfl ES rfl UZ) ⟨rfl,rfl,trivial⟩ λ_=>?_
 refine aQ rfl rfl rfl (aX rfl FD ID) trivial λb3=>?_
 refine aF rfl rfl (aC rfl Gn rfl rfl rfl) ⟨rfl,rfl,trivial⟩ ?_
 refine eJ (jt (t:=(.arr 7 Tr)) (x:=r2) [7] .rep ⟨rfl,trivial⟩) ?_
 refine nt ?_
 refine sr ?_
 refine aQ rfl rfl rfl (wA rfl) trivial λz4=>?_
 refine eJ (sO (tc []) JG) ?_
 refine aq ?_
 refine nt ?_
 refine sr ?_
 refine aQ rfl rfl rfl (aX rfl sU As) trivial λb5=>?_
 refine nt ?_
 refine sr ?_
 refine fl yh ?_
 refine aF rfl rfl (aC rfl cJ rfl rfl rfl) ⟨rfl,rfl,trivial⟩ ?_
 refine nt ?_
 refine ak ?_
 refine dI 4 rfl ?_
 refine iJ (dT (a:=.rep bS a2) (a':=.agg (.pair (I a2.1) (I a2.2))) (AE.trans Eh (AE.agg (AE.trans AK (AE.pair AE.int AE.int))))) ?_
 refine aM (λz7 y6=>[(0,Pt c),(5,Pt b1),(7,.at (.arr 7 Tr) r2),(8,.eq (.map (some z4))),(9,Pt b5)]) (λz7 y6=>[.obj c 125 (aW a0 z_a0),.obj b1 131 (.agg (.pair (I y6.1) (I y6.2.1))),.obj b5 131 (.agg (.pair (I (-1:Int)) (I 0))),.inv z_a0 (cf k a0),.inv z4 (tc y6.2.2)]) (gx k a0 r2) k () (a2.1,a2.2,([]:List (eN×eN))) (λ_=>rfl) h (SE.fin [3,0,1,4,2] ⟨rfl,rfl,rfl,rfl,rfl,trivial⟩ rfl) (λn z7 y6 h=>?_)
 unfold gx at h
 refine I6 (Z:=Unit) (α:=Int×Int×(List (eN×eN))) (λz9 x8=>[(0,Pt c),(5,Pt b1),(7,.at (.arr 7 Tr) r2),(8,.eq (.map (some z4))),(9,Pt b5)]) (λz9 x8=>[.obj c 125 (aW a0 z_a0),.obj b1 131 (.agg (.pair (I x8.1) (I x8.2.1))),.obj b5 131 (.agg (.pair (I (-1:Int)) (I 0))),.inv z_a0 (cf k a0),.inv z4 (tc x8.2.2)]) (λe=>e=r) h (λe h=>Option.some.inj h) (λK hR h=>?_) (λz9 x8 h=>?_)
 .
  refine ak (sr (fl Lh ?_));refine fr 1 ?_;refine lo cJ ?_;refine aq (nt ?_);refine aN (Z:=Unit) (α:=Int) (λO D=>[(0,Pt c),(5,Pt b1),(7,.at (.arr 7 Tr) r2),(8,.eq (.map (some z4))),(9,Pt b5),(10,I D)]) (λO D=>[.obj c 125 (aW a0 z_a0),.obj b1 131 (.agg (.pair (I y6.1) (I y6.2.1))),.obj b5 131 (.agg (.pair (I (-1:Int)) (I 0))),.inv z_a0 (cf k a0),.inv z4 (tc y6.2.2)]) h (λK h=>?_) (λO D h=>?_)
  .refine ak (aM (λM s=>[(0,Pt c),(5,Pt b1),(7,.at (.arr 7 Tr) r2),(8,.eq (.map (some z4))),(9,Pt b5),(10,I s)]) (λM s=>[.obj c 125 (aW a0 z_a0),.obj b1 131 (.agg (.pair (I y6.1) (I y6.2.1))),.obj b5 131 (.agg (.pair (I (-1:Int)) (I 0))),.inv z_a0 (cf k a0),.inv z4 (tc y6.2.2)]) (gu k r2 y6) k () y6.2.1 (λ_=>rfl) h (SE.fin [1,0,2,3,4] ⟨rfl,rfl,rfl,rfl,rfl,rfl,trivial⟩ rfl) (λn M s h=>?_));unfold gu at h;refine aj (aN (Z:=Unit) (α:=Bool) (λJ y=>[(0,Pt c),(5,Pt b1),(7,.at (.arr 7 Tr) r2),(8,.eq (.map (some z4))),(9,Pt b5),(10,I s),(30,.eq (.bool y))]) (λJ y=>[.obj c 125 (aW a0 z_a0),.obj b1 131 (.agg (.pair (I y6.1) (I y6.2.1))),.obj b5 131 (.agg (.pair (I (-1:Int)) (I 0))),.inv z_a0 (cf k a0),.inv z4 (tc y6.2.2)]) h (λK h=>?_) (λJ y h=>?_))
   .refine cG ?_;refine dm ?_;refine db (lR rfl) ?_;refine yD rfl rfl rfl (bA rfl) ⟨rfl,trivial⟩ (λhb=>?_) (λhb=>?_)
    .replace h:=eu (tw hb) h;refine d5 rfl rfl rfl rfl rfl (bA rfl) ⟨rfl,rfl,trivial⟩ ?_;obtain⟨Vb,UH,h⟩:=aa h;refine d5 rfl rfl rfl rfl rfl (eE rfl UH) ⟨rfl,rfl,rfl,trivial⟩ ?_;refine d5 rfl rfl rfl rfl rfl (ap rfl yh) ⟨rfl,rfl,trivial⟩ ?_;refine kK 1 rfl rfl rfl rfl rfl rfl (an rfl cJ jj rfl) ⟨rfl,rfl,trivial⟩ ?_;obtain⟨Va,UG,h⟩:=aa h;refine d5 rfl rfl rfl rfl rfl (cp (t:=Tr) rfl Jm je UG) ⟨rfl,rfl,rfl,trivial⟩ ?_;refine df dZ ?_;obtain⟨UO,UF,h⟩:=aa h;refine gb (cp (t:=Ti) rfl CB cJ UF) ?_;refine ga (aA (t:=Ti) rfl cJ rfl) ?_;refine gb (kp rfl) ?_;refine pt (nl ?_);exact jz ((),decide (0≤UO)) h [0,1,2,3,4]
    .replace h:=cK (tz hb) h;iterate 5 refine dg ?_
     refine df dZ ?_;iterate 3 refine gn ?_
     refine pf (nl ?_);exact jz ((),false) h [0,1,2,3,4]
   .refine cv h (λh=>?_) (λh=>?_)
    .refine sk (ak (ae (mq ?_)));obtain⟨UN,UE,h⟩:=aa h;refine jb (eE rfl UE) ?_;refine aq (aI (bn ?_));exact jz ((),UN) h [0,1,2,3,4]
    .refine xa ?_;exact jz ((),s) h [0,1,2,3,4]
  .refine aj (sr (mq ?_));refine jb (hJ rfl) ?_;refine nt (ci h (λh=>?_) (λh=>?_))
   .refine sr (mq ?_);refine fr 1 ?_;refine lo jF ?_;refine fr 2 ?_;refine lo jF ?_;refine eJ (eH (t:=bS) (x:=(y6.1,y6.2.1)) 36 rfl (.agg (.pair .int .int)) trivial rfl) ?_;obtain⟨Vs,UJ,h⟩:=aa h;refine eJ (eH (t:=bS) (x:=((-1:Int),0)) 37 rfl (.agg (.pair .int .int)) trivial rfl) ?_;refine fr 4 ?_;refine aF rfl rfl (qK (K:=kV) (V:=kV) (t:=(y6.1,y6.2.1)) (n:=((-1:Int),0)) (l:=y6.2.2) (λ_ _ _ h=>mZ h) rfl Fb mm (λ_ _ _ h=>mZ h) (qC (ao UJ)) (qB _) qD) ⟨rfl,rfl,rfl,trivial⟩ ?_;refine nt (sr (mq ?_));refine aq (nt (rx (br (bL ?_))));refine bo (SE.fin (Γ':=[(6,_)]) [0,3,4,1,2] ⟨rfl,trivial⟩ rfl) ?_;obtain rfl:=hR _ h;exact aL z4 [.eq (.map (some z4))] 3 ⟨rfl,trivial⟩ rfl
   .refine sk (aj (rA ?_));refine bv rfl rfl rfl (bA rfl) ⟨rfl,trivial⟩ ?_;refine bv rfl rfl rfl (bA rfl) ⟨rfl,trivial⟩ ?_;obtain⟨U8,zz,h⟩:=aa h;refine bv rfl rfl rfl (eE rfl zz) ⟨rfl,rfl,trivial⟩ ?_;obtain⟨UM,qt,h⟩:=aa h;refine bv rfl rfl rfl (cp (t:=Tr) rfl Jm je qt) ⟨rfl,rfl,trivial⟩ ?_;refine bv rfl rfl rfl (aA (t:=Tr) rfl je rfl) ⟨rfl,trivial⟩ ?_;refine bv rfl rfl rfl (ap rfl yh) ⟨rfl,trivial⟩ ?_;refine gp 1 rfl rfl rfl rfl (an rfl cJ jj rfl) ⟨rfl,trivial⟩ ?_;refine bv rfl rfl rfl (bA rfl) ⟨rfl,trivial⟩ ?_;obtain⟨UL,mw,h⟩:=aa h;refine bv rfl rfl rfl (eE rfl mw) ⟨rfl,rfl,trivial⟩ ?_;obtain⟨j,UK,h⟩:=aa h;refine gp 0 rfl rfl rfl rfl (ay [.tmp 39,.tmp 43,.tmp 45,.tmp 47] rfl rfl Na rfl (nH k a0 c z_a0 UM y6.1 UL j UK)) ⟨rfl,rfl,rfl,rfl,trivial⟩ ?_;refine bv rfl rfl rfl (bA rfl) ⟨rfl,trivial⟩ ?_;obtain⟨u,mc,h⟩:=aa h;refine bv rfl rfl rfl (eE rfl mc) ⟨rfl,rfl,trivial⟩ ?_;refine bv rfl rfl rfl (cR [(0,.tmp 48,_),(1,.tmp 50,_)] rfl GW sU Cd (gA ⟨rfl,rfl,trivial⟩) rfl) ⟨rfl,rfl,trivial⟩ ?_;refine MA (Ob 131 (.agg (.pair (I 0) (I 0)))) (λ_=>rfl) rfl rfl rfl (aX rfl sU As) trivial ?_;refine sT 14 [true,true,true,true,true,true,true,true,true,true,true,true,true,true] [] [] [] rfl (by kernel_rfl) (by kernel_rfl) (by kernel_rfl) dZ (λvs hv hB=>?_);obtain⟨w0,Vq,rfl,UX⟩:=ax hv;obtain⟨w1,Vp,rfl,UW⟩:=ax UX;obtain⟨w2,Vo,rfl,UV⟩:=ax UW;obtain⟨w3,Vn,rfl,UU⟩:=ax UV;obtain⟨w4,Vm,rfl,UT⟩:=ax UU;obtain⟨w5,Vl,rfl,US⟩:=ax UT;obtain⟨w6,Vk,rfl,UR⟩:=ax US;obtain⟨w7,Vj,rfl,UQ⟩:=ax UR;obtain⟨w8,Vi,rfl,UP⟩:=ax UQ;obtain⟨w9,U7,rfl,gw⟩:=ax UP;obtain⟨Vh,U6,rfl,Y⟩:=ax gw;obtain⟨Vg,U2,rfl,X⟩:=ax Y;obtain⟨Vf,U1,rfl,U⟩:=ax X;obtain⟨Ve,U0,rfl,Q⟩:=ax U;obtain rfl:=oY Q;obtain⟨E,rfl⟩:=Oa hB.2.2.2.2.2.2.2.2.2.2.2.2.2.1;refine⟨[0,1,2,3,4,5],[.obj c 125 (aW a0 z_a0),.obj b1 131 (.agg (.pair (I y6.1) (I y6.2.1))),.obj b5 131 (.agg (.pair (I (-1:Int)) (I 0))),.inv z_a0 (cf k a0),.inv z4 (tc y6.2.2),.obj E 131 (.agg (.pair (I 0) (I 0)))],by kernel_rfl,by decide,?_⟩;refine oJ 5 rfl ?_;refine sP rfl rfl (aC rfl jF trivial rfl rfl) ⟨rfl,rfl,trivial⟩ (by kernel_rfl) ?_;refine yz ?_;refine bo (SE.fin (Γ':=[(0,Pt c),(5,Pt b1),(7,.at (.arr 7 Tr) r2),(8,.eq (.map (some z4))),(9,Pt b5),(11,Pt E)]) (Δ':=[.obj E 131 (.agg (.pair (I j) (I u))),.obj c 125 (aW a0 z_a0),.obj b1 131 (.agg (.pair (I y6.1) (I y6.2.1))),.obj b5 131 (.agg (.pair (I (-1:Int)) (I 0))),.inv z_a0 (cf k a0),.inv z4 (tc y6.2.2)]) [0,1,2,3,4,5] ⟨rfl,rfl,rfl,rfl,rfl,rfl,trivial⟩ rfl) ?_;refine tn (sr (mq ?_));refine fr 2 ?_;refine lo jF ?_;refine fr 1 ?_;refine lo jF ?_;refine eJ (eH (t:=bS) (x:=(y6.1,y6.2.1)) 53 rfl (.agg (.pair .int .int)) trivial rfl) ?_;obtain⟨Vr,UI,h⟩:=aa h;refine eJ (eH (t:=bS) (x:=(j,u)) 54 rfl (.agg (.pair .int .int)) trivial rfl) ?_;refine fr 5 ?_;refine aF rfl rfl (qK (K:=kV) (V:=kV) (t:=(y6.1,y6.2.1)) (n:=(j,u)) (l:=y6.2.2) (λ_ _ _ h=>mZ h) rfl Fb mm (λ_ _ _ h=>mZ h) (qC (ao UI)) (qB _) qD) ⟨rfl,rfl,rfl,trivial⟩ ?_
    refine nt (ae (fr 1 ?_));refine lo jF ?_;refine fr 2 ?_;refine aF rfl rfl (aC rfl jF trivial rfl rfl) ⟨rfl,rfl,trivial⟩ ?_;refine aI (bn ?_);exact jz ((),(j,u,BA y6.2.2 (y6.1,y6.2.1) (j,u))) h [3,0,4,5,2]
 .
  refine au ?_;exact jz ((),(x8.1,x8.2.1,x8.2.2)) h [0,1,2,3,4]
def kC(k:Nat)(r7:(List (fJ×fJ))):Nat->(Int×Int×(List Int))->Option (List Int)
 |0,_=>none
 |n+1,c=>
  (cH (yY (c.1,c.2.1))).bind λ_=>
  if¬((nn r7 (c.1,c.2.1) (0,0))=((-1:Int),0)) then((cH (yY (c.1,c.2.1))).bind λ_=>
  (cH (bM (length c.2.2+length [(nn r7 (c.1,c.2.1) (0,0)).1]))).bind λ_=>
  (cH (yY (c.1,c.2.1))).bind λ_=>
  kC k r7 n ((nn r7 (c.1,c.2.1) (0,0)).1,(nn r7 (c.1,c.2.1) (0,0)).2,c.2.2++[(nn r7 (c.1,c.2.1) (0,0)).1])) else(some c.2.2)
def rZ(k:Nat)(a0:ab)(a1:(List Int))(a2:Int):Option ((List Int)×Int):=
 (iT k a0 a1 [a2] ([]:(List Int)) ([]:(List Int))).bind λr2=>
 fK r2.1 (if¬(r2.2.2=0) then(some (([]:(List Int)),r2.2.2)) else(none)) (λq3=>if¬(r2.2.2=0) then(some (([]:(List Int)),r2.2.2)) else((iw k q3 r2.2.1 a2).bind λr5=>
 if r5 < 0 then(some (([]:(List Int)),11)) else((lq k q3 r2.2.1 (a2,r5)).bind λr7=>
 ((kC k r7 k (a2,r5,[a2])):Option ((List Int))).bind λc=>
 (jY k c).bind λe=>
 some (e,0))))
theorem xT(k:Nat)(a0:ab)(a1:(List Int))(a2:Int)(r:(List Int)×Int)(h:rZ k a0 a1 a2=some r):
 bX (dQ Tryz.prog) 48 [.rep am a0,.rep Tl a1,I a2] [] (λ_:Unit=>(bJ [.rep Tl r.1,I r.2],[])):=by
 unfold rZ at h
 replace h:=bb h
 refine bX.of 64 Tryz.func48 rfl Tryz.ntmps48 rfl λS w0=>?_
 refine sr ?_
 refine bx λb1=>?_
 refine cq ?_
 refine cq ?_
 refine nt ?_
 refine sr ?_
 refine lo cV ?_
 iterate 2 refine mq ?_
 refine ja (bf (t:=Ti) [(.tmp 19,_)] [a2] rfl rfl ec (.cons rfl .int .nil) rfl rfl) ?_
 obtain⟨r2,Y,h⟩:=aa h
 have u:=jI k a0 a1 [a2] ([]:(List Int)) ([]:(List Int)) r2 Y
 rcases hr:r2.1 with _ |q3
 .
  rw [hr] at h u;replace h:=tB h;refine aK (Δ:=[]) (F:=_) (λ_ _ _=>ag rfl _) rfl rfl (bF (N:=[(.tmp 17,.rep am a0),(.tmp 18,.rep Tl a1),(.tmp 20,.rep Tl [a2]),(.const (.slice none 0 0),.eq (.slice none 0 0)),(.const (.slice none 0 0),.eq (.slice none 0 0))]) (aU [.tmp 17,.tmp 18,.tmp 20,.const (.slice none 0 0),.const (.slice none 0 0)] rfl rfl vW rfl u) λ_ _ _ hn=>⟨hn.1,hn.2.1,hn.2.2.1,(aD (t:=Tl) (x:=([]:(List Int))) .nil rfl rfl hn.2.2.2.1),(aD (t:=Tl) (x:=([]:(List Int))) .nil rfl rfl hn.2.2.2.2.1),trivial⟩) ⟨rfl,rfl,rfl,rfl,rfl,trivial⟩ λ_=>?_;refine mq ?_;refine xr ?_;refine xr ?_;refine xr ?_;refine aq ?_;refine aq ?_;refine aq (nt (aj (sr ?_)));refine mq ?_;refine jb (dW rfl) ?_;refine nt (cn h (λh=>?_) (λh=>?_))
  .refine sr (mq ?_);refine cq ?_;refine aq (nt (rx ?_));refine bo (eH (t:=Tl) (x:=([]:(List Int))) 6 rfl .nil rfl rfl) ?_;cases h;exact rb
  .cases h
 .
  rw [hr] at h u;replace h:=tA h;refine aK (Δ:=[]) (F:=_) (λ_ _ _=>ag rfl _) rfl rfl (bF (N:=[(.tmp 17,.rep am a0),(.tmp 18,.rep Tl a1),(.tmp 20,.rep Tl [a2]),(.const (.slice none 0 0),.eq (.slice none 0 0)),(.const (.slice none 0 0),.eq (.slice none 0 0))]) (aU [.tmp 17,.tmp 18,.tmp 20,.const (.slice none 0 0),.const (.slice none 0 0)] rfl rfl vW rfl u) λ_ _ _ hn=>⟨hn.1,hn.2.1,hn.2.2.1,(aD (t:=Tl) (x:=([]:(List Int))) .nil rfl rfl hn.2.2.2.1),(aD (t:=Tl) (x:=([]:(List Int))) .nil rfl rfl hn.2.2.2.2.1),trivial⟩) ⟨rfl,rfl,rfl,rfl,rfl,trivial⟩ λz4=>?_;refine mq ?_;refine xr ?_;refine xr ?_;refine xr ?_;refine aq ?_;refine aq ?_;refine aq (nt (aj (sr ?_)));refine mq ?_;refine jb (dW rfl) ?_;refine nt (cn h (λh=>?_) (λh=>?_))
  .refine sr (mq ?_);refine cq ?_;refine aq (nt (rx ?_));refine bo (eH (t:=Tl) (x:=([]:(List Int))) 6 rfl .nil rfl rfl) ?_;cases h;exact rb
  .refine sk (sr ?_);iterate 3 refine mq ?_
   obtain⟨r5,X,h⟩:=aa h;refine fr 1 ?_;refine fr 1 ?_;refine aK (Δ:=[_,_]) (F:=_) (λ_ _ _=>ag rfl _) rfl rfl (aU [.tmp 28,.tmp 29,.tmp 30] rfl rfl QO rfl (ll k q3 z4.1 z4.2 r2.2.1 a2 r5 X)) ⟨rfl,rfl,rfl,trivial⟩ λ_=>?_;refine aq (nt (aj (sr ?_)));refine mq ?_;refine jb (bO rfl) ?_;refine nt (ci h (λh=>?_) (λh=>?_))
   .refine sr (cq ?_);refine cq (nt (rx ?_));refine bo (eH (t:=Tl) (x:=([]:(List Int))) 6 rfl .nil rfl rfl) ?_;cases h;exact rb
   .refine sk (sr ?_);iterate 2 refine mq ?_
    refine jb (cR [(0,.tmp 34,_),(1,.tmp 35,_)] rfl GW sU Cd (gA ⟨rfl,rfl,trivial⟩) rfl) ?_;refine aQ rfl rfl rfl (aX rfl sU As) trivial λb6=>?_;refine aF rfl rfl (aC rfl jF trivial rfl rfl) ⟨rfl,rfl,trivial⟩ ?_;refine nt (sr ?_);iterate 2 refine mq ?_
    refine lo jF ?_;obtain⟨r7,U,h⟩:=aa h;refine fr 2 ?_;refine fr 2 ?_;refine aK (Δ:=[_,_]) (F:=_) (λ_ _ _=>ag rfl _) rfl rfl (bF (N:=[(.tmp 37,.eq (.pointer (some ⟨z4.1,0,none⟩))),(.tmp 38,.eq (.int .u8 r2.2.1)),(.tmp 39,.agg (.pair (I a2) (I r5)))]) (aU [.tmp 37,.tmp 38,.tmp 39] rfl rfl Td rfl (qS k q3 z4.1 z4.2 r2.2.1 (a2,r5) r7 U)) λ_ _ _ hn=>⟨hn.1,hn.2.1,(aD (t:=bS) (x:=(a2,r5)) (.agg (.pair .int .int)) trivial rfl hn.2.2.1),trivial⟩) ⟨rfl,rfl,rfl,trivial⟩ λz8=>?_;refine aq (nt (sr ?_));refine mq ?_;refine aQ rfl rfl rfl (lg (t:=Ti) [(.tmp 41,_)] [a2] rfl rfl ec (.cons rfl .int .nil) rfl rfl) ⟨rfl,trivial⟩ λv9=>?_;refine aq (nt ?_);refine aN (Z:=Value) (α:=(List Int)) (λj s=>[(13,.eq (.map (some z8))),(14,.eq j)]) (λj s=>[.sl j 3 Ti s,.inv z4.2 (cf k q3),.inv z8 (tc r7)]) h (λK h=>?_) (λj s h=>?_)
    .refine sr (ja (cR [(0,.const (.int .i64 (-1)),_)] rfl GW sU Cd (gA ⟨rfl,trivial⟩) rfl) ?_);refine aQ rfl rfl rfl (aX rfl sU As) trivial λmc=>?_;refine aF rfl rfl (aC rfl jF trivial rfl rfl) ⟨rfl,rfl,trivial⟩ ?_;refine nt (ak (aM (λe c=>[(12,Pt b6),(13,.eq (.map (some z8))),(14,.eq e.1),(15,.eq (.pointer (some ⟨e.2,0,none⟩)))]) (λe c=>[.obj b6 131 (.agg (.pair (I c.1) (I c.2.1))),.sl e.1 3 Ti c.2.2,.obj e.2 131 (.agg (.pair (I (-1:Int)) (I 0))),.inv z4.2 (cf k q3),.inv z8 (tc r7)]) (kC k r7) k (v9,mc) (a2,r5,[a2]) (λ_=>rfl) h (SE.fin [5,1,0,4,2] ⟨rfl,rfl,rfl,rfl,trivial⟩ rfl) (λn e c h=>?_)));unfold kC at h;refine aj (aj (cG ?_));refine dm ?_;refine ea 0 (an rfl jF (nK) rfl) ?_;obtain⟨zz,J,h⟩:=aa h;refine eb 4 (bF (N:=[(.tmp 44,.eq (.map (some z8))),(.tmp 45,.agg (.pair (I c.1) (I c.2.1)))]) (rO (K:=kV) (V:=kV) (t:=(c.1,c.2.1)) (l:=r7) (λn=>.rep bS n) t6 rfl Fb (0,0) t5 mm (λ_ _ _ h=>mZ h) (qC (ao J)) (qB _) qD) λ_ _ _ hn=>⟨hn.1,(aD (t:=bS) (x:=(c.1,c.2.1)) (.agg (.pair .int .int)) trivial rfl hn.2.1),trivial⟩) ?_;refine ea 2 (an rfl jF (nK) rfl) ?_;refine df dZ ?_;refine eJ (eH (t:=bS) (x:=((-1:Int),0)) 47 rfl (.agg (.pair .int .int)) trivial rfl) ?_;refine jb (G6 rfl QG rfl) ?_;refine nt (cn h (λh=>?_) (λh=>?_))
     .refine sk (aj (ak (ae ?_)));iterate 2 refine mq ?_
      refine lo jF ?_;refine eJ (eH (t:=bS) (x:=(c.1,c.2.1)) 54 rfl (.agg (.pair .int .int)) trivial rfl) ?_;obtain⟨u16,E,h⟩:=aa h;refine fr 4 ?_;refine kb (bF (N:=[(.tmp 53,.eq (.map (some z8))),(.tmp 54,.rep bS (c.1,c.2.1))]) (rO (K:=kV) (V:=kV) (t:=(c.1,c.2.1)) (l:=r7) (λn=>.rep bS n) t6 rfl Fb (0,0) t5 mm (λ_ _ _ h=>mZ h) (qC (ao E)) (qB _) qD) λ_ _ _ hn=>⟨hn.1,hn.2.1,trivial⟩) ?_;refine ja (Ks rfl TX rfl cJ (λ_=>rfl) rfl rfl rfl) ?_;refine ja (bf (t:=Ti) [(.tmp 56,_)] [(nn r7 (c.1,c.2.1) (0,0)).1] rfl rfl ec (.cons rfl .int .nil) rfl rfl) ?_;obtain⟨qt,D,h⟩:=aa h;refine fr 2 ?_;refine eh rfl rfl rfl (cx rfl rfl ec (ao D)) ⟨rfl,rfl,trivial⟩ λO=>?_;refine aq (aI (aS (tn (aj (sr ?_)))));refine fr 3 ?_;refine lo jF ?_;refine nt (ae (aQ rfl rfl rfl (aX rfl sU As) trivial λgw=>?_));refine aF rfl rfl (aC rfl jF trivial rfl rfl) ⟨rfl,rfl,trivial⟩ ?_;refine nt (ae (mq ?_));refine fr 4 ?_;refine lo jF ?_;refine eJ (eH (t:=bS) (x:=(c.1,c.2.1)) 50 rfl (.agg (.pair .int .int)) trivial rfl) ?_;obtain⟨mw,y,h⟩:=aa h;refine fr 4 ?_;refine kb (bF (N:=[(.tmp 49,.eq (.map (some z8))),(.tmp 50,.rep bS (c.1,c.2.1))]) (rO (K:=kV) (V:=kV) (t:=(c.1,c.2.1)) (l:=r7) (λn=>.rep bS n) t6 rfl Fb (0,0) t5 mm (λ_ _ _ h=>mZ h) (qC (ao y)) (qB _) qD) λ_ _ _ hn=>⟨hn.1,hn.2.1,trivial⟩) ?_;refine fr 1 ?_;refine aF rfl rfl (aC rfl jF rfl rfl rfl) ⟨rfl,rfl,trivial⟩ ?_;refine nl (bo (dT (a:=.rep bS (nn r7 (c.1,c.2.1) (0,0))) (a':=.agg (.pair (I ((nn r7 (c.1,c.2.1) (0,0)).1)) (I ((nn r7 (c.1,c.2.1) (0,0)).2)))) (AE.trans Eh (AE.agg (AE.trans AK (AE.pair AE.int AE.int))))) ?_);exact jz ((O,gw),((nn r7 (c.1,c.2.1) (0,0)).1,(nn r7 (c.1,c.2.1) (0,0)).2,c.2.2++[(nn r7 (c.1,c.2.1) (0,0)).1])) h [0,4,2,5,1]
     .refine xa ?_;exact jz (e.1,c.2.2) h [1,3,4]
    .refine sr (mq ?_);refine fr 2 ?_;refine aF rfl rfl (Ha rfl rfl Fb) ⟨rfl,trivial⟩ ?_;refine nt (sr (mq ?_));obtain⟨Q,M,h⟩:=aa h;refine fr 1 ?_;refine ka (ay [.tmp 61] rfl rfl Ta rfl (pP k s j Q M)) ?_;refine nt (sr (mq ?_));refine aq ?_;refine cq (nt (aE ?_));refine bo (ju [6,14,61,63] ⟨rfl,rfl,rfl,rfl,trivial⟩) ?_;cases h;exact rb
def lU(k:Nat)(a0:ab)(a1:Int)(r2:(Option ab)×(List Int)×Int)(q3:ab)(y7:(List Int)×Int):Nat->(Int×Int)->Option Int
 |0,_=>none
 |n+1,c=>
  if c.2 < (r2.2.1.length:Int) then((((aV r2.2.1 c.2).bind λr=>
  (lM k q3 r).bind λu=>
  (aV u a1).bind λl=>
  (aV l y7.2).bind λj=>
  if a0.2.2.1≤j then((ck (c.1+1)).bind λh=>
  some h) else(some c.1)):Option (Int)).bind λs=>
  (ck (c.2+1)).bind λe=>
  lU k a0 a1 r2 q3 y7 n (s,e)) else(some c.1)
def lV(k:Nat)(a0:ab)(a1:Int)(r2:(Option ab)×(List Int)×Int)(q3:ab):Nat->((List Int)×Int)->Option (List Int)
 |0,_=>none
 |n+1,y7=>
  if y7.2 < a0.1 then(((((lU k a0 a1 r2 q3 y7 k (0,0)):Option (Int)).bind λc=>
  (ck ((r2.2.1.length:Int) - c)).bind λe=>
  (cH (bM (length y7.1+length [sq c e]))).bind λ_=>
  some (y7.1++[sq c e])):Option ((List Int))).bind λx9=>
  (ck (y7.2+1)).bind λh=>
  lV k a0 a1 r2 q3 n (x9,h)) else(some y7.1)
def uE(k:Nat)(a0:ab)(a1:Int):Option (Int×Int×Int):=
 (mF k a0 ([]:(List Int)) ([]:(List Int)) [a1]).bind λr2=>
 fK r2.1 (if¬(r2.2.2=0) then(some (0,0,r2.2.2)) else(none)) (λq3=>if¬(r2.2.2=0) then(some (0,0,r2.2.2)) else(((lV k a0 a1 r2 q3 k (([]:(List Int)),0)):Option ((List Int))).bind λx5=>
 (lO k x5).bind λc=>
 if(r2.2.1.length:Int)≤c then(some (0,0,11)) else((gh k x5 c).bind λe=>
 some (e,c,0))))
theorem zA(k:Nat)(a0:ab)(a1:Int)(r:Int×Int×Int)(h:uE k a0 a1=some r):
 bX (dQ Tryz.prog) 49 [.rep am a0,I a1] [] (λ_:Unit=>(bJ [I r.1,I r.2.1,I r.2.2],[])):=by
 unfold uE at h
 replace h:=bb h
 refine bX.of 71 Tryz.func49 rfl Tryz.ntmps49 rfl λS w0=>?_
 refine sr ?_
 refine bx λb1=>?_
 refine cq ?_
 refine cq ?_
 refine cq ?_
 refine nt ?_
 refine sr ?_
 refine lo cV ?_
 refine mq ?_
 refine ja (bf (t:=Ti) [(.tmp 18,_)] [a1] rfl rfl ec (.cons rfl .int .nil) rfl rfl) ?_
 obtain⟨r2,UL,h⟩:=aa h
 have s:=ni k a0 ([]:(List Int)) ([]:(List Int)) [a1] r2 UL
 rcases hr:r2.1 with _ |q3
 .
  rw [hr] at h s;replace h:=tB h;refine aK (Δ:=[]) (F:=_) (λ_ _ _=>ag rfl _) rfl rfl (bF (N:=[(.tmp 17,.rep am a0),(.const (.slice none 0 0),.eq (.slice none 0 0)),(.const (.slice none 0 0),.eq (.slice none 0 0)),(.tmp 19,.rep Tl [a1])]) (aU [.tmp 17,.const (.slice none 0 0),.const (.slice none 0 0),.tmp 19] rfl rfl ER rfl s) λ_ _ _ hn=>⟨hn.1,(aD (t:=Tl) (x:=([]:(List Int))) .nil rfl rfl hn.2.1),(aD (t:=Tl) (x:=([]:(List Int))) .nil rfl rfl hn.2.2.1),hn.2.2.2.1,trivial⟩) ⟨rfl,rfl,rfl,rfl,trivial⟩ λ_=>?_;refine mq ?_;refine xr ?_;refine xr ?_;refine xr ?_;refine aq ?_;refine aq ?_;refine aq (nt (aj (sr ?_)));refine mq ?_;refine jb (dW rfl) ?_;refine nt (cn h (λh=>?_) (λh=>?_))
  .refine sr (mq ?_);refine cq ?_;refine cq ?_;refine aq (nt (rx ?_));cases h;exact aL () [_,_,_] 0 ⟨rfl,rfl,rfl,trivial⟩ rfl
  .cases h
 .
  rw [hr] at h s;replace h:=tA h;refine aK (Δ:=[]) (F:=_) (λ_ _ _=>ag rfl _) rfl rfl (bF (N:=[(.tmp 17,.rep am a0),(.const (.slice none 0 0),.eq (.slice none 0 0)),(.const (.slice none 0 0),.eq (.slice none 0 0)),(.tmp 19,.rep Tl [a1])]) (aU [.tmp 17,.const (.slice none 0 0),.const (.slice none 0 0),.tmp 19] rfl rfl ER rfl s) λ_ _ _ hn=>⟨hn.1,(aD (t:=Tl) (x:=([]:(List Int))) .nil rfl rfl hn.2.1),(aD (t:=Tl) (x:=([]:(List Int))) .nil rfl rfl hn.2.2.1),hn.2.2.2.1,trivial⟩) ⟨rfl,rfl,rfl,rfl,trivial⟩ λz4=>?_;refine mq ?_;refine xr ?_;refine xr ?_;refine xr ?_;refine aq ?_;refine aq ?_;refine aq (nt (aj (sr ?_)));refine mq ?_;refine jb (dW rfl) ?_;refine nt (cn h (λh=>?_) (λh=>?_))
  .refine sr (mq ?_);refine cq ?_;refine cq ?_;refine aq (nt (rx ?_));cases h;exact aL () [_,_,_] 0 ⟨rfl,rfl,rfl,trivial⟩ rfl
  .refine sk (sr (cq (nt ?_)));refine aN (Z:=Value) (α:=(List Int)) (λz6 x5=>[(8,.rep (.slice (.int .u8)) r2.2.1),(10,.eq z6)]) (λz6 x5=>[.sl z6 3 Ti x5,.inv z4.2 (cf k q3)]) h (λK h=>?_) (λz6 x5 h=>?_)
   .refine sr (fl fG ?_);refine fr 2 ?_;refine lo cJ ?_;refine fq rfl ?_;refine nt (ak (iJ (SE.nil 3 Ti) ?_));refine aM (λz8 y7=>[(1,I a1),(2,Pt b1),(7,.eq (.pointer (some ⟨z4.1,0,none⟩))),(8,.rep (.slice (.int .u8)) r2.2.1),(10,.eq z8),(28,I a0.1),(29,I y7.2)]) (λz8 y7=>[.obj b1 26 (.rep am a0),.obj z4.1 125 (aW q3 z4.2),.sl z8 3 Ti y7.1,.inv z4.2 (cf k q3)]) (lV k a0 a1 r2 q3) k (.slice none 0 0) (([]:(List Int)),0) (λ_=>rfl) h (SE.fin [1,2,0,3] ⟨rfl,rfl,rfl,rfl,rfl,rfl,rfl,trivial⟩ rfl) (λn z8 y7 h=>?_);unfold lV at h;refine sr (jb (bO rfl) ?_);refine nt (aj (ci h (λh=>?_) (λh=>?_)))
    .refine sk (aN (Z:=Value) (α:=(List Int)) (λe x9=>[(1,I a1),(2,Pt b1),(7,.eq (.pointer (some ⟨z4.1,0,none⟩))),(8,.rep (.slice (.int .u8)) r2.2.1),(10,.eq e),(28,I a0.1),(29,I y7.2)]) (λe x9=>[.obj b1 26 (.rep am a0),.obj z4.1 125 (aW q3 z4.2),.sl e 3 Ti x9,.inv z4.2 (cf k q3)]) h (λK h=>?_) (λe x9 h=>?_))
     .refine ak (sr (mq ?_));refine aq (nt (sr ?_));refine cq (nt ?_);refine aN (Z:=Unit) (α:=Int) (λE j=>[(1,I a1),(2,Pt b1),(7,.eq (.pointer (some ⟨z4.1,0,none⟩))),(8,.rep (.slice (.int .u8)) r2.2.1),(10,.eq z8),(12,I j),(28,I a0.1),(29,I y7.2)]) (λE j=>[.obj b1 26 (.rep am a0),.obj z4.1 125 (aW q3 z4.2),.sl z8 3 Ti y7.1,.inv z4.2 (cf k q3)]) h (λK h=>?_) (λE j h=>?_)
      .refine sr (mq ?_);refine ol yI ?_;refine fq rfl ?_;refine nt (ak (aM (λD c=>[(1,I a1),(2,Pt b1),(7,.eq (.pointer (some ⟨z4.1,0,none⟩))),(8,.rep (.slice (.int .u8)) r2.2.1),(10,.eq z8),(11,I y7.2),(12,I c.1),(28,I a0.1),(29,I y7.2),(32,.rep (.slice (.int .u8)) r2.2.1),(33,I (r2.2.1.length:Int)),(34,I c.2)]) (λD c=>[.obj b1 26 (.rep am a0),.obj z4.1 125 (aW q3 z4.2),.sl z8 3 Ti y7.1,.inv z4.2 (cf k q3)]) (lU k a0 a1 r2 q3 y7) k () (0,0) (λ_=>rfl) h (SE.fin [0,1,2,3] ⟨rfl,rfl,rfl,rfl,rfl,rfl,rfl,rfl,rfl,rfl,rfl,rfl,trivial⟩ rfl) (λn D c h=>?_)));unfold lU at h;refine sr (jb (bO rfl) ?_);refine nt (aj (ci h (λh=>?_) (λh=>?_)))
       .refine sk (aN (Z:=Unit) (α:=Int) (λy l=>[(1,I a1),(2,Pt b1),(7,.eq (.pointer (some ⟨z4.1,0,none⟩))),(8,.rep (.slice (.int .u8)) r2.2.1),(10,.eq z8),(11,I y7.2),(12,I l),(28,I a0.1),(29,I y7.2),(32,.rep (.slice (.int .u8)) r2.2.1),(33,I (r2.2.1.length:Int)),(34,I c.2)]) (λy l=>[.obj b1 26 (.rep am a0),.obj z4.1 125 (aW q3 z4.2),.sl z8 3 Ti y7.1,.inv z4.2 (cf k q3)]) h (λK h=>?_) (λy l h=>?_))
        .refine ak (sr ?_);obtain⟨UH,gw,h⟩:=aa h;refine jb (ba (t:=(.int .u8)) rfl yI pL gw) ?_;refine ja (aA (t:=(.int .u8)) rfl pL rfl) ?_;refine aq (nt (aj ?_));refine cG ?_;refine dm ?_;refine dm ?_;obtain⟨UK,zz,h⟩:=aa h;refine Po 1 3 rfl rfl (by kernel_rfl) rfl rfl rfl (aU [.tmp 38,.tmp 39] rfl rfl ES rfl (o8 k q3 z4.1 z4.2 UH UK zz)) ⟨rfl,rfl,trivial⟩ ?_;refine dm ?_;obtain⟨UN,Y,h⟩:=aa h;refine db (oa (t:=Tr) rfl Jm je rfl rfl (nK) Y) ?_;refine dm ?_;obtain⟨UM,X,h⟩:=aa h;refine db (oa (t:=Ti) rfl CB cJ rfl rfl (λ_=>rfl) X) ?_;refine da (ap rfl sC) ?_;refine ea 0 (an rfl cJ jj rfl) ?_;refine df dZ ?_;refine jb (kp rfl) ?_;refine nt (ci h (λh=>?_) (λh=>?_))
         .refine ae (mq ?_);obtain⟨UG,U,h⟩:=aa h;refine jb (bH rfl U) ?_;refine aq (aI (bn ?_));exact jz ((),UG) h [0,1,2,3]
         .refine bi (bn ?_);exact jz ((),c.1) h [0,1,2,3]
        .refine ae ?_;obtain⟨UF,Q,h⟩:=aa h;refine jb (bH rfl Q) ?_;refine mq (nl ?_);exact jz ((),(l,UF)) h [0,1,2,3]
       .refine xa ?_;exact jz ((),c.1) h [0,1,2,3]
      .refine ae ?_;iterate 3 refine mq ?_
       refine ol yI ?_;refine mq ?_;obtain⟨J,O,h⟩:=aa h;refine jb (eE rfl O) ?_;refine jb (G7 rfl rfl) ?_;refine ja (bf (t:=Ti) [(.tmp 57,_)] [sq j J] rfl rfl ec (.cons rfl .int .nil) rfl rfl) ?_;obtain⟨UO,mc,h⟩:=aa h;refine fr 2 ?_;refine eh rfl rfl rfl (cx rfl rfl ec (ao mc)) ⟨rfl,rfl,trivial⟩ λUI=>?_;refine aq (aI (bn ?_));exact jz (UI,y7.1++[sq j J]) h [1,2,0,3]
     .refine ae ?_;obtain⟨UE,M,h⟩:=aa h;refine jb (bH rfl M) ?_;refine mq (nl ?_);exact jz (e,(x9,UE)) h [0,1,2,3]
    .refine xa ?_;exact jz (z8,y7.1) h [2,3]
   .refine sr (mq ?_);obtain⟨u,qt,h⟩:=aa h;refine ka (lF (N:=[(.tmp 61,.eq z6)]) (ay [.tmp 61] rfl rfl QN rfl (nS k x5 u qt)) (λ_ _ _ hv hn=>⟨(lend hn.1 hv),trivial⟩) (λ_=>⟨rfl,ox⟩)) ?_;refine aq (nt (aj (sr ?_)));iterate 2 refine mq ?_
    refine ol yI ?_;refine jb (kp rfl) ?_;refine nt (ci h (λh=>?_) (λh=>?_))
    .refine sr (cq ?_);refine cq ?_;refine cq (nt (rx ?_));cases h;exact aL () [_,_,_] 0 ⟨rfl,rfl,rfl,trivial⟩ rfl
    .refine sk (sr ?_);iterate 2 refine mq ?_
     obtain⟨UJ,mw,h⟩:=aa h;refine kb (lF (N:=[(.tmp 67,.eq z6),(.tmp 68,I u)]) (ay [.tmp 67,.tmp 68] rfl rfl QJ rfl (mt k x5 u UJ mw)) (λ_ _ _ hv hn=>⟨(lend hn.1 hv),hn.2.1,trivial⟩) (λ_=>⟨rfl,ox⟩)) ?_;refine mq ?_;refine aq ?_;refine aq ?_;refine cq (nt (aE ?_));cases h;exact aL () [_,_,_] 0 ⟨rfl,rfl,rfl,trivial⟩ rfl
def jA(k:Nat)(a1:Int)(a2:Int)(y4:(List (List (List Int)))×Int)(h:(List Int)):Nat->((List Int)×Int)->Option (List Int)
 |0,_=>none
 |n+1,c=>
  if c.2 < (h.length:Int) then((((aV h c.2).bind λe=>
  ((if y4.2 < a1 then(some true) else((eV k a2 e).bind λs=>
  some (!s))):Option (Bool)).bind λl=>
  if l=true then((cH (bM (length c.1+length [e]))).bind λ_=>
  some (c.1++[e])) else(some c.1)):Option ((List Int))).bind λr=>
  (ck (c.2+1)).bind λj=>
  jA k a1 a2 y4 h n (r,j)) else(some c.1)
def jB(k:Nat)(a1:Int)(a2:Int)(y4:(List (List (List Int)))×Int)(x8:(List (List Int))):Nat->((List (List Int))×Int)->Option (List (List Int))
 |0,_=>none
 |n+1,c=>
  if c.2 < (x8.length:Int) then((((aV x8 c.2).bind λj=>
  ((jA k a1 a2 y4 j k (([]:(List Int)),0)):Option ((List Int))).bind λe=>
  (cH (bM (length c.1+length [e]))).bind λ_=>
  some (c.1++[e])):Option ((List (List Int)))).bind λl=>
  (ck (c.2+1)).bind λh=>
  jB k a1 a2 y4 x8 n (l,h)) else(some c.1)
def jC(k:Nat)(a0:ab)(a1:Int)(a2:Int):Nat->((List (List (List Int)))×Int)->Option (List (List (List Int)))
 |0,_=>none
 |n+1,y4=>
  if y4.2 < (a0.2.2.2.2.1.length:Int) then((((aV a0.2.2.2.2.1 y4.2).bind λx8=>
  ((jB k a1 a2 y4 x8 k (([]:(List (List Int))),0)):Option ((List (List Int)))).bind λx9=>
  (cH (bM (length y4.1+length [x9]))).bind λ_=>
  some (y4.1++[x9])):Option ((List (List (List Int))))).bind λx6=>
  (ck (y4.2+1)).bind λc=>
  jC k a0 a1 a2 n (x6,c)) else(some y4.1)
def nj(k:Nat)(a0:ab)(a1:Int)(a2:Int):Option (Option ab):=
 ((jC k a0 a1 a2 k (([]:(List (List (List Int)))),0)):Option ((List (List (List Int))))).bind λx2=>
 (f6 k (a0.1,a0.2.1,a0.2.2.1,a0.2.2.2.1,x2,a0.2.2.2.2.2)).bind λc=>
 fK c (some none) (λe=>some (some e))
theorem vR(k:Nat)(a0:ab)(a1:Int)(a2:Int)(r:(Option ab))(h:nj k a0 a1 a2=some r):
 du Tryz.prog 83 [.rep am a0,I a1,.eq (.int .u8 a2)] [] (λz:Nat×Nat=>(bJ [J7 r z.1],J6 r λq=>qy q z.1 z.2 k)):=by
 unfold nj at h
 replace h:=bb h
 refine du.of 69 Tryz.func83 rfl Tryz.ntmps83 rfl λS w0=>?_
 refine sr ?_
 refine bx λb1=>?_
 refine cq ?_
 refine nt ?_
 refine sr ?_
 refine fl cU ?_
 refine lo ic ?_
 refine mq ?_
 refine ja (rN [.tmp 19] [] [(.int .u8 a2)] [] rfl rfl rfl) ?_
 refine aq ?_
 refine aq ?_
 refine nt ?_
 refine sr ?_
 refine fl cU ?_
 refine aF rfl rfl (aC rfl ic rfl rfl rfl) ⟨rfl,rfl,trivial⟩ ?_
 refine nt ?_
 refine aN (Z:=Value) (α:=(List (List (List Int)))) (λz3 x2=>[(3,Pt b1)]) (λz3 x2=>[.obj b1 26 (.agg (.pair (I a0.1) (.pair (I a0.2.1) (.pair (I a0.2.2.1) (.pair (I a0.2.2.2.1) (.pair (.eq z3) (Rs aH a0.2.2.2.2.2))))))),.sl z3 30 (.slice Tl) x2]) h (λK h=>?_) (λz3 x2 h=>?_)
 .
  refine sr (mq ?_);refine ol tX ?_;refine fq rfl ?_;refine nt (ak (iJ (SE.nil 30 (.slice Tl)) ?_));refine dI 1 rfl ?_;refine iJ (dT (a:=.agg (.pair (.rep Ti a0.1) (.pair (.rep Ti a0.2.1) (.pair (.rep Ti a0.2.2.1) (.pair (.rep Ti a0.2.2.2.1) (.pair (.eq (.slice none 0 0)) (Rs aH a0.2.2.2.2.2))))))) (a':=.agg (.pair (I a0.1) (.pair (I a0.2.1) (.pair (I a0.2.2.1) (.pair (I a0.2.2.2.1) (.pair (.eq (.slice none 0 0)) (Rs aH a0.2.2.2.2.2))))))) (AE.agg (AE.pair AE.int (AE.pair AE.int (AE.pair AE.int (AE.pair AE.int AE.rfl)))))) ?_;refine aM (λz5 y4=>[(1,I a1),(3,Pt b1),(8,.eq (.func (.func 75) #[(.int .u8 a2)] #[])),(22,.rep (.slice (.slice Tl)) a0.2.2.2.2.1),(23,I (a0.2.2.2.2.1.length:Int)),(24,I y4.2)]) (λz5 y4=>[.obj b1 26 (.agg (.pair (I a0.1) (.pair (I a0.2.1) (.pair (I a0.2.2.1) (.pair (I a0.2.2.2.1) (.pair (.eq z5) (Rs aH a0.2.2.2.2.2))))))),.sl z5 30 (.slice Tl) y4.1]) (jC k a0 a1 a2) k (.slice none 0 0) (([]:(List (List (List Int)))),0) (λ_=>rfl) h (SE.fin [0,1] ⟨rfl,rfl,rfl,rfl,rfl,rfl,trivial⟩ rfl) (λn z5 y4 h=>?_);unfold jC at h;refine sr (jb (bO rfl) ?_);refine nt (aj (ci h (λh=>?_) (λh=>?_)))
  .refine sk (aN (Z:=Value) (α:=(List (List (List Int)))) (λz7 x6=>[(1,I a1),(3,Pt b1),(8,.eq (.func (.func 75) #[(.int .u8 a2)] #[])),(22,.rep (.slice (.slice Tl)) a0.2.2.2.2.1),(23,I (a0.2.2.2.2.1.length:Int)),(24,I y4.2)]) (λz7 x6=>[.obj b1 26 (.agg (.pair (I a0.1) (.pair (I a0.2.1) (.pair (I a0.2.2.1) (.pair (I a0.2.2.2.1) (.pair (.eq z7) (Rs aH a0.2.2.2.2.2))))))),.sl z7 30 (.slice Tl) x6]) h (λK h=>?_) (λz7 x6 h=>?_))
   .refine ak (sr (mq ?_));obtain⟨x8,UT,h⟩:=aa h;refine jb (ba (t:=(.slice Tl)) rfl tX qE UT) ?_;refine ja (aA (t:=(.slice Tl)) rfl qE rfl) ?_;refine aq ?_;refine aq (nt (sr ?_));refine cq (nt ?_);refine aN (Z:=Value) (α:=(List (List Int))) (λQ x9=>[(1,I a1),(3,Pt b1),(8,.eq (.func (.func 75) #[(.int .u8 a2)] #[])),(11,.eq Q),(22,.rep (.slice (.slice Tl)) a0.2.2.2.2.1),(23,I (a0.2.2.2.2.1.length:Int)),(24,I y4.2)]) (λQ x9=>[.obj b1 26 (.agg (.pair (I a0.1) (.pair (I a0.2.1) (.pair (I a0.2.2.1) (.pair (I a0.2.2.2.1) (.pair (.eq z5) (Rs aH a0.2.2.2.2.2))))))),.sl z5 30 (.slice Tl) y4.1,.sl Q 22 Tl x9]) h (λK h=>?_) (λQ x9 h=>?_)
    .refine sr (mq ?_);refine ol qs ?_;refine fq rfl ?_;refine nt (ak (iJ (SE.nil 22 Tl) ?_));refine aM (λe c=>[(1,I a1),(3,Pt b1),(8,.eq (.func (.func 75) #[(.int .u8 a2)] #[])),(9,I y4.2),(11,.eq e),(22,.rep (.slice (.slice Tl)) a0.2.2.2.2.1),(23,I (a0.2.2.2.2.1.length:Int)),(24,I y4.2),(29,.rep (.slice Tl) x8),(30,I (x8.length:Int)),(31,I c.2)]) (λe c=>[.obj b1 26 (.agg (.pair (I a0.1) (.pair (I a0.2.1) (.pair (I a0.2.2.1) (.pair (I a0.2.2.2.1) (.pair (.eq z5) (Rs aH a0.2.2.2.2.2))))))),.sl z5 30 (.slice Tl) y4.1,.sl e 22 Tl c.1]) (jB k a1 a2 y4 x8) k (.slice none 0 0) (([]:(List (List Int))),0) (λ_=>rfl) h (SE.fin [1,2,0] ⟨rfl,rfl,rfl,rfl,rfl,rfl,rfl,rfl,rfl,rfl,rfl,trivial⟩ rfl) (λn e c h=>?_);unfold jB at h;refine sr (jb (bO rfl) ?_);refine nt (aj (ci h (λh=>?_) (λh=>?_)))
     .refine sk (aN (Z:=Value) (α:=(List (List Int))) (λE X=>[(1,I a1),(3,Pt b1),(8,.eq (.func (.func 75) #[(.int .u8 a2)] #[])),(9,I y4.2),(11,.eq E),(22,.rep (.slice (.slice Tl)) a0.2.2.2.2.1),(23,I (a0.2.2.2.2.1.length:Int)),(24,I y4.2),(29,.rep (.slice Tl) x8),(30,I (x8.length:Int)),(31,I c.2)]) (λE X=>[.obj b1 26 (.agg (.pair (I a0.1) (.pair (I a0.2.1) (.pair (I a0.2.2.1) (.pair (I a0.2.2.2.1) (.pair (.eq z5) (Rs aH a0.2.2.2.2.2))))))),.sl z5 30 (.slice Tl) y4.1,.sl E 22 Tl X]) h (λK h=>?_) (λE X h=>?_))
      .refine ak (sr ?_);obtain⟨u,UH,h⟩:=aa h;refine jb (ba (t:=Tl) rfl qs iN UH) ?_;refine ja (aA (t:=Tl) rfl iN rfl) ?_;refine aq (nt (sr ?_));refine cq (nt ?_);refine aN (Z:=Value) (α:=(List Int)) (λO M=>[(1,I a1),(3,Pt b1),(8,.eq (.func (.func 75) #[(.int .u8 a2)] #[])),(9,I y4.2),(11,.eq e),(14,.eq O),(22,.rep (.slice (.slice Tl)) a0.2.2.2.2.1),(23,I (a0.2.2.2.2.1.length:Int)),(24,I y4.2),(29,.rep (.slice Tl) x8),(30,I (x8.length:Int)),(31,I c.2)]) (λO M=>[.obj b1 26 (.agg (.pair (I a0.1) (.pair (I a0.2.1) (.pair (I a0.2.2.1) (.pair (I a0.2.2.2.1) (.pair (.eq z5) (Rs aH a0.2.2.2.2.2))))))),.sl z5 30 (.slice Tl) y4.1,.sl e 22 Tl c.1,.sl O 3 Ti M]) h (λK h=>?_) (λO M h=>?_)
       .refine sr (mq ?_);refine ol jr ?_;refine fq rfl ?_;refine nt (ak (iJ (SE.nil 3 Ti) ?_));refine aM (λl j=>[(1,I a1),(3,Pt b1),(8,.eq (.func (.func 75) #[(.int .u8 a2)] #[])),(9,I y4.2),(11,.eq e),(14,.eq l),(22,.rep (.slice (.slice Tl)) a0.2.2.2.2.1),(23,I (a0.2.2.2.2.1.length:Int)),(24,I y4.2),(29,.rep (.slice Tl) x8),(30,I (x8.length:Int)),(31,I c.2),(35,.rep Tl u),(36,I (u.length:Int)),(37,I j.2)]) (λl j=>[.obj b1 26 (.agg (.pair (I a0.1) (.pair (I a0.2.1) (.pair (I a0.2.2.1) (.pair (I a0.2.2.2.1) (.pair (.eq z5) (Rs aH a0.2.2.2.2.2))))))),.sl z5 30 (.slice Tl) y4.1,.sl e 22 Tl c.1,.sl l 3 Ti j.1]) (jA k a1 a2 y4 u) k (.slice none 0 0) (([]:(List Int)),0) (λ_=>rfl) h (SE.fin [1,2,3,0] ⟨rfl,rfl,rfl,rfl,rfl,rfl,rfl,rfl,rfl,rfl,rfl,rfl,rfl,rfl,rfl,trivial⟩ rfl) (λn l j h=>?_);unfold jA at h;refine sr (jb (bO rfl) ?_);refine nt (aj (ci h (λh=>?_) (λh=>?_)))
        .refine sk (aN (Z:=Value) (α:=(List Int)) (λD U=>[(1,I a1),(3,Pt b1),(8,.eq (.func (.func 75) #[(.int .u8 a2)] #[])),(9,I y4.2),(11,.eq e),(14,.eq D),(22,.rep (.slice (.slice Tl)) a0.2.2.2.2.1),(23,I (a0.2.2.2.2.1.length:Int)),(24,I y4.2),(29,.rep (.slice Tl) x8),(30,I (x8.length:Int)),(31,I c.2),(35,.rep Tl u),(36,I (u.length:Int)),(37,I j.2)]) (λD U=>[.obj b1 26 (.agg (.pair (I a0.1) (.pair (I a0.2.1) (.pair (I a0.2.2.1) (.pair (I a0.2.2.2.1) (.pair (.eq z5) (Rs aH a0.2.2.2.2.2))))))),.sl z5 30 (.slice Tl) y4.1,.sl e 22 Tl c.1,.sl D 3 Ti U]) h (λK h=>?_) (λD U h=>?_))
         .refine ak (sr ?_);obtain⟨J,UG,h⟩:=aa h;refine jb (ba (t:=Ti) rfl jr cJ UG) ?_;refine ja (aA (t:=Ti) rfl cJ rfl) ?_;refine aq (nt ?_);refine aN (Z:=Unit) (α:=Bool) (λmc gw=>[(1,I a1),(3,Pt b1),(8,.eq (.func (.func 75) #[(.int .u8 a2)] #[])),(9,I y4.2),(11,.eq e),(14,.eq l),(16,I J),(22,.rep (.slice (.slice Tl)) a0.2.2.2.2.1),(23,I (a0.2.2.2.2.1.length:Int)),(24,I y4.2),(29,.rep (.slice Tl) x8),(30,I (x8.length:Int)),(31,I c.2),(35,.rep Tl u),(36,I (u.length:Int)),(37,I j.2),(49,.eq (.bool gw))]) (λmc gw=>[.obj b1 26 (.agg (.pair (I a0.1) (.pair (I a0.2.1) (.pair (I a0.2.2.1) (.pair (I a0.2.2.2.1) (.pair (.eq z5) (Rs aH a0.2.2.2.2.2))))))),.sl z5 30 (.slice Tl) y4.1,.sl e 22 Tl c.1,.sl l 3 Ti j.1]) h (λK h=>?_) (λmc gw h=>?_)
          .refine ae ?_;iterate 2 refine mq ?_
           refine jb (bO rfl) ?_;refine mq ?_;refine bN (s:=44) rfl (λhb=>?_) (λhb=>?_)
           .replace h:=eu (tw hb) h;iterate 4 refine gn ?_
            refine pt (nl ?_);exact jz ((),true) h [0,1,2,3]
           .replace h:=cK (tz hb) h;refine gm ?_;refine gm ?_;obtain⟨qt,UM,h⟩:=aa h;refine gb (tN (fs:=[(.int .u8 a2)]) (cs:=[]) (ags:=[I J]) [.tmp 46] rfl rfl Ih rfl (gJ k a2 J qt UM)) ?_;refine ga (ig rfl) ?_;refine pf (nl ?_);exact jz ((), !qt) h [0,1,2,3]
          .refine cv h (λh=>?_) (λh=>?_)
           .refine ae ?_;iterate 2 refine mq ?_
            refine ja (bf (t:=Ti) [(.tmp 51,_)] [J] rfl rfl ec (.cons rfl .int .nil) rfl rfl) ?_;obtain⟨UV,UK,h⟩:=aa h;refine fr 3 ?_;refine eh rfl rfl rfl (cx rfl rfl ec (ao UK)) ⟨rfl,rfl,trivial⟩ λUS=>?_;refine aq (aI (bn ?_));exact jz (US,j.1++[J]) h [1,2,3,0]
           .refine bi (bn ?_);exact jz (l,j.1) h [0,1,2,3]
         .refine ae ?_;obtain⟨UP,UF,h⟩:=aa h;refine jb (bH rfl UF) ?_;refine mq (nl ?_);exact jz (D,(U,UP)) h [0,1,2,3]
        .refine xa ?_;exact jz (l,j.1) h [0,1,2,3]
       .refine ae ?_;iterate 2 refine mq ?_
        refine fr 3 ?_;refine eJ (ju [14,56] ⟨rfl,rfl,trivial⟩) ?_;refine ja (bf (t:=Tl) [(.tmp 56,_)] [M] rfl rfl pw (.cons rfl .rep .nil) rfl rfl) ?_;obtain⟨UU,UJ,h⟩:=aa h;refine fr 2 ?_;refine eh rfl rfl rfl (cx rfl rfl pw (ao UJ)) ⟨rfl,rfl,trivial⟩ λUR=>?_;refine aq (aI (bn ?_));exact jz (UR,c.1++[M]) h [1,2,0]
      .refine ae ?_;obtain⟨UO,UE,h⟩:=aa h;refine jb (bH rfl UE) ?_;refine mq (nl ?_);exact jz (E,(X,UO)) h [0,1,2]
     .refine xa ?_;exact jz (e,c.1) h [0,1,2]
    .refine ae (fl cU ?_);refine lo ic ?_;refine mq ?_;refine fr 2 ?_;refine eJ (ju [11,62] ⟨rfl,rfl,trivial⟩) ?_;refine ja (bf (t:=(.slice Tl)) [(.tmp 62,_)] [x9] rfl rfl xt (.cons rfl .rep .nil) rfl rfl) ?_;obtain⟨u32,UI,h⟩:=aa h;refine fr 1 ?_;refine eh rfl rfl rfl (cx rfl rfl xt (ao UI)) ⟨rfl,rfl,trivial⟩ λUQ=>?_;refine fl cU ?_;refine mh λo34=>?_;refine fr 1 ?_;refine aF rfl rfl (aC rfl ic o34 rfl rfl) ⟨rfl,rfl,trivial⟩ ?_;refine aI (bn ?_);exact jz (UQ,y4.1++[x9]) h [0,1]
   .refine ae ?_;obtain⟨UN,zz,h⟩:=aa h;refine jb (bH rfl zz) ?_;refine mq (nl ?_);exact jz (z7,(x6,UN)) h [0,1]
  .refine xa ?_;exact jz (z5,y4.1) h [0,1]
 .
  refine sr (fr 1 ?_);refine eJ (iE (off:=4) [] trivial rfl rfl) ?_;refine lo cV ?_;obtain⟨mw,UL,h⟩:=aa h;have y:=kh k (a0.1,a0.2.1,a0.2.2.1,a0.2.2.2.1,x2,a0.2.2.2.2.2) mw UL;rcases hr:mw with _ |UW
  .rw [hr] at h y;replace h:=tB h;refine aK (Δ:=[]) (F:=_) (λ_ _ _=>ag rfl _) rfl rfl (bF (N:=[(.tmp 67,.agg (.pair (I a0.1) (.pair (I a0.2.1) (.pair (I a0.2.2.1) (.pair (I a0.2.2.2.1) (.pair (.rep (.slice (.slice Tl)) x2) (Rs aH a0.2.2.2.2.2)))))))]) (ay [.tmp 67] rfl rfl EP rfl y) λ_ _ _ hn=>⟨(aD (t:=am) (x:=(a0.1,a0.2.1,a0.2.2.1,a0.2.2.2.1,x2,a0.2.2.2.2.2)) (.agg (.pair .int (.pair .int (.pair .int (.pair .int (.pair .rep .rep)))))) trivial rfl hn.1),trivial⟩) ⟨rfl,trivial⟩ λ_=>?_;refine aq (nt (aE ?_));cases h;exact aL (0,0) [.eq (.pointer none)] 0 ⟨rfl,trivial⟩ rfl
  .rw [hr] at h y;replace h:=tA h;refine aK (Δ:=[]) (F:=_) (λ_ _ _=>ag rfl _) rfl rfl (bF (N:=[(.tmp 67,.agg (.pair (I a0.1) (.pair (I a0.2.1) (.pair (I a0.2.2.1) (.pair (I a0.2.2.2.1) (.pair (.rep (.slice (.slice Tl)) x2) (Rs aH a0.2.2.2.2.2)))))))]) (ay [.tmp 67] rfl rfl EP rfl y) λ_ _ _ hn=>⟨(aD (t:=am) (x:=(a0.1,a0.2.1,a0.2.2.1,a0.2.2.2.1,x2,a0.2.2.2.2.2)) (.agg (.pair .int (.pair .int (.pair .int (.pair .int (.pair .rep .rep)))))) trivial rfl hn.1),trivial⟩) ⟨rfl,trivial⟩ λY=>?_;refine aq (nt (aE ?_));cases h;exact aL (Y.1,Y.2) [.eq (.pointer (some ⟨Y.1,0,none⟩))] 2 ⟨rfl,trivial⟩ rfl
def eX(k:Nat)(a0:ab)(r1:(List (List Int)))(y5:Int):Nat->Int->Option (Except Bool Unit)
 |0,_=>none
 |n+1,c=>
  if c < a0.1 then((((aV r1 y5).bind λs=>
  (aV s c).bind λr=>
  if r < 0 then((ck (y5+1)).bind λl=>
  (aV r1 l).bind λj=>
  (aV j c).bind λh=>
  some (decide (h=0))) else(some false)):Option (Bool)).bind λu=>
  if u=true then(some (.error true)) else((ck (c+1)).bind λe=>
  eX k a0 r1 y5 n e)) else(some (.ok ()))
def eY(k:Nat)(a0:ab)(r1:(List (List Int))):Nat->Int->Option (Except Bool Unit)
 |0,_=>none
 |n+1,y5=>
  if y5 < (a0.2.2.2.2.1.length:Int) then(bE (α:=Unit) ((ck (y5+1)).bind λx9=>
  (aV r1 x9).bind λh=>
  (aV r1 y5).bind λc=>
  (cH (xA h/\xA c)).bind λ_=>
  if h=c then(some (.ok ())) else(eX k a0 r1 y5 k 0)) (λe=>some (.error e)) λ_=>
  (ck (y5+1)).bind λj=>
  eY k a0 r1 n j) else(some (.ok ()))
def iU(k:Nat)(a0:ab)(a1:Int)(a2:Int):Option Bool:=
 (lM k a0 a1).bind λr1=>
 bE (α:=Unit) (eY k a0 r1 k a2) (some) λ_=>
 some false
theorem og(k:Nat)(a0:ab)(c z_a0:Nat)(a1:Int)(a2:Int)(r:Bool)(h:iU k a0 a1 a2=some r):
 bX (dQ Tryz.prog) 85 [Pt c,.eq (.int .u8 a1),I a2] [.obj c 125 (aW a0 z_a0),.inv z_a0 (cf k a0)] (λ_:Unit=>(bJ [.eq (.bool r)],[.obj c 125 (aW a0 z_a0),.inv z_a0 (cf k a0)])):=by
 unfold iU at h
 replace h:=bb h
 refine bX.of 56 Tryz.func85 rfl Tryz.ntmps85 rfl λS w0=>?_
 refine sr ?_
 refine cq ?_
 refine nt ?_
 refine sr ?_
 iterate 2 refine mq ?_
 obtain⟨r1,UE,h⟩:=aa h
 have UF:=o8 k a0 c z_a0 a1 r1 UE
 refine fr 1 ?_
 refine fr 1 ?_
 refine aK (Δ:=[_,_]) (F:=_) (λ_ _ _=>ag rfl _) rfl rfl (aU [.tmp 10,.tmp 11] rfl rfl ES rfl UF) ⟨rfl,rfl,trivial⟩ λ_=>?_
 refine aQ rfl rfl rfl (aX rfl FD ID) trivial λb2=>?_
 refine aF rfl rfl (aC rfl Gn rfl rfl rfl) ⟨rfl,rfl,trivial⟩ ?_
 refine eJ (jt (t:=(.arr 7 Tr)) (x:=r1) [7] .rep ⟨rfl,trivial⟩) ?_
 refine nt ?_
 refine dG (Z:=Unit) (α:=Unit) (λz4 x3=>[]) (λz4 x3=>[.obj c 125 (aW a0 z_a0),.inv z_a0 (cf k a0)]) (λe=>e=r) h (λe h=>Option.some.inj h) (λK hR h=>?_) (λz4 x3 h=>?_)
 .
  refine sr (mq ?_);refine aq (nt (ak ?_));refine aM (λz6 y5=>[(0,Pt c),(7,.at (.arr 7 Tr) r1),(8,I y5)]) (λz6 y5=>[.obj c 125 (aW a0 z_a0),.inv z_a0 (cf k a0)]) (eY k a0 r1) k () a2 (λ_=>rfl) h (SE.fin [0,1] ⟨rfl,rfl,rfl,trivial⟩ rfl) (λn z6 y5 h=>?_);unfold eY at h;refine aj (sr ?_);iterate 2 refine mq ?_
  refine ja (cL rfl) ?_;refine fl g7 ?_;refine fl cU ?_;refine lo ic ?_;refine ol tX ?_;refine jb (bO rfl) ?_;refine nt (ci h (λh=>?_) (λh=>?_))
  .refine sk (dG (Z:=Unit) (α:=Unit) (λz8 x7=>[(0,Pt c),(7,.at (.arr 7 Tr) r1),(8,I y5)]) (λz8 x7=>[.obj c 125 (aW a0 z_a0),.inv z_a0 (cf k a0)]) (λe=>e=r) h (λe h=>hR e h) (λK hR h=>?_) (λz8 x7 h=>?_))
   .refine ak (aj (aj (cG ?_)));refine dm ?_;obtain⟨x9,zz,h⟩:=aa h;refine db (bH rfl zz) ?_;obtain⟨UL,gw,h⟩:=aa h;refine db (cp (t:=Tr) rfl Jm je gw) ?_;refine da (aA (t:=Tr) rfl je rfl) ?_;refine dm ?_;obtain⟨UK,Y,h⟩:=aa h;refine db (cp (t:=Tr) rfl Jm je Y) ?_;refine da (aA (t:=Tr) rfl je rfl) ?_;refine df dZ ?_;obtain⟨UM,l,h⟩:=aa h;refine jb (G9 rfl (ao l).1 (ao l).2) ?_;refine nt (ci h (λh=>?_) (λh=>?_))
    .refine hH (cC (dO (au ?_)));exact jz ((),()) h [0,1]
    .refine sk (sr (mq ?_));refine ja (cL rfl) ?_;refine fl g7 ?_;refine fl fG ?_;refine lo cJ ?_;refine fq rfl ?_;refine nt (ak (aM (λD j=>[(0,Pt c),(7,.at (.arr 7 Tr) r1),(8,I y5),(36,I a0.1),(37,I j)]) (λD j=>[.obj c 125 (aW a0 z_a0),.inv z_a0 (cf k a0)]) (eX k a0 r1 y5) k () 0 (λ_=>rfl) h (SE.fin [0,1] ⟨rfl,rfl,rfl,rfl,rfl,trivial⟩ rfl) (λn D j h=>?_)));unfold eX at h;refine sr (jb (bO rfl) ?_);refine nt (aj (ci h (λh=>?_) (λh=>?_)))
     .refine sk (aj (ak (sr (mq ?_))));refine aq (nt ?_);refine aN (Z:=Unit) (α:=Bool) (λy u=>[(0,Pt c),(7,.at (.arr 7 Tr) r1),(8,I y5),(36,I a0.1),(37,I j),(54,.eq (.bool u))]) (λy u=>[.obj c 125 (aW a0 z_a0),.inv z_a0 (cf k a0)]) h (λK h=>?_) (λy u h=>?_)
      .refine ae ?_;iterate 2 refine mq ?_
       obtain⟨UJ,X,h⟩:=aa h;refine jb (cp (t:=Tr) rfl Jm je X) ?_;obtain⟨UI,U,h⟩:=aa h;refine jb (cp (t:=Ti) rfl CB cJ U) ?_;refine ja (aA (t:=Ti) rfl cJ rfl) ?_;refine jb (bO rfl) ?_;refine mq ?_;refine bN (s:=46) rfl (λhb=>?_) (λhb=>?_)
       .replace h:=eu (tw hb) h;refine gm ?_;obtain⟨UH,Q,h⟩:=aa h;refine gb (bH rfl Q) ?_;refine gm ?_;obtain⟨UG,O,h⟩:=aa h;refine gb (cp (t:=Tr) rfl Jm je O) ?_;obtain⟨qt,M,h⟩:=aa h;refine gb (cp (t:=Ti) rfl CB cJ M) ?_;refine ga (aA (t:=Ti) rfl cJ rfl) ?_;refine gb (hJ rfl) ?_;refine pt (nl ?_);exact jz ((),decide (qt=0)) h [0,1]
       .replace h:=cK (tz hb) h;iterate 7 refine gn ?_
        refine pf (nl ?_);exact jz ((),false) h [0,1]
      .refine cv h (λh=>?_) (λh=>?_)
       .refine sr (cq (nt (aE (br (bL (br (bL (bz ?_))))))));obtain rfl:=hR _ h;exact aL () [_] 2 ⟨rfl,trivial⟩ rfl
       .refine bi (aS (tn (ae ?_)));obtain⟨mw,J,h⟩:=aa h;refine jb (bH rfl J) ?_;refine mq (nl ?_);exact jz ((),mw) h [0,1]
     .refine hH (cC (cC (dO (bn ?_))));exact jz ((),()) h [0,1]
   .refine ae (mq ?_);obtain⟨mc,E,h⟩:=aa h;refine jb (bH rfl E) ?_;refine aq (nl ?_);exact jz ((),mc) h [0,1]
  .refine xa ?_;exact jz ((),()) h [0,1]
 .
  refine sr (cq (nt (aE ?_)));cases h;exact aL () [_] 2 ⟨rfl,trivial⟩ rfl
def nm(k:Nat)(a0:Int)(a1:ab)(a2:Int):Option Bool:=
 (iU k a1 a0 a2).bind λr1=>
 some r1
theorem tj(k:Nat)(a0:Int)(a1:ab)(c z_a1 j:Nat)(a2:Int)(e:Nat)(r:Bool)(h:nm k a0 a1 a2=some r):
 bX (dQ Tryz.prog) 84 [.eq (.int .u8 a0),Pt j,Pt e] [.obj c 125 (aW a1 z_a1),.inv z_a1 (cf k a1),.obj j 72 (Pt c),.obj e 3 (I a2)] (λ_:Unit=>(bJ [.eq (.bool r)],[.obj c 125 (aW a1 z_a1),.inv z_a1 (cf k a1),.obj j 72 (Pt c),.obj e 3 (I a2)])):=by
 unfold nm at h
 replace h:=bb h
 refine bX.of 9 Tryz.func84 rfl Tryz.ntmps84 rfl λS w0=>?_
 refine sr ?_
 refine cq ?_
 refine nt ?_
 refine sr ?_
 refine fr 2 ?_
 refine lo JJ ?_
 refine mq ?_
 refine fr 3 ?_
 refine lo cJ ?_
 obtain⟨r1,l,h⟩:=aa h
 have n:=og k a1 c z_a1 a0 a2 r1 l
 refine fr 3 ?_
 refine fr 3 ?_
 refine aK (Δ:=[_,_]) (F:=_) (λ_ _ _=>ag rfl _) rfl rfl (aU [.tmp 5,.tmp 6,.tmp 7] rfl rfl S7 rfl n) ⟨rfl,rfl,rfl,trivial⟩ λ_=>?_
 refine aq ?_
 refine nt ?_
 refine aE ?_
 refine bo (SE.fin (Γ':=[(4,_)]) [0,1,3,2] ⟨rfl,trivial⟩ rfl) ?_
 cases h
 exact aL () [_] 4 ⟨rfl,trivial⟩ rfl
def eS(k:Nat)(a0:(List Int))(a1_0:ab)(a1_1:Int):Nat->Int->Option (Except Int Unit)
 |0,_=>none
 |n+1,y3=>
  if y3 < (a0.length:Int) then((aV a0 y3).bind λx5=>
  (nm k x5 a1_0 a1_1).bind λr6=>
  if r6=true then(some (.error y3)) else((ck (y3+1)).bind λx7=>
  eS k a0 a1_0 a1_1 n x7)) else(some (.ok ()))
def iQ(k:Nat)(a0:(List Int))(a1_0:ab)(a1_1:Int):Option Int:=
 bE (α:=Unit) (eS k a0 a1_0 a1_1 k 0) (some) λ_=>
 some (-1:Int)
theorem nU(k:Nat)(a0:(List Int))(a1_0:ab)(b_a1_0 z_a1_0 c_a1_0:Nat)(a1_1:Int)(c_a1_1:Nat)(r:Int)(h:iQ k a0 a1_0 a1_1=some r):
 bX (dQ Tryz.prog) 114 [.rep (.slice (.int .u8)) a0,.eq (.func (.func 84) #[] #[(Pv c_a1_0),(Pv c_a1_1)])] [.obj b_a1_0 125 (aW a1_0 z_a1_0),.inv z_a1_0 (cf k a1_0),.obj c_a1_0 72 (Pt b_a1_0),.obj c_a1_1 3 (I a1_1)] (λ_:Unit=>(bJ [I r],[.obj b_a1_0 125 (aW a1_0 z_a1_0),.inv z_a1_0 (cf k a1_0),.obj c_a1_0 72 (Pt b_a1_0),.obj c_a1_1 3 (I a1_1)])):=by
 unfold iQ at h
 replace h:=bb h
 refine bX.of 19 Tryz.func114 rfl Tryz.ntmps114 rfl λS w0=>?_
 refine sr ?_
 refine cq ?_
 refine nt ?_
 refine dG (Z:=Unit) (α:=Unit) (λz2 x1=>[]) (λz2 x1=>[.obj b_a1_0 125 (aW a1_0 z_a1_0),.inv z_a1_0 (cf k a1_0),.obj c_a1_0 72 (Pt b_a1_0),.obj c_a1_1 3 (I a1_1)]) (λe=>e=r) h (λe h=>Option.some.inj h) (λK hR h=>?_) (λz2 x1 h=>?_)
 .
  refine sr (mq ?_);refine ol yI ?_;refine fq rfl ?_;refine nt (ak (aM (λz4 y3=>[(0,.rep (.slice (.int .u8)) a0),(1,.eq (.func (.func 84) #[] #[(Pv c_a1_0),(Pv c_a1_1)])),(7,I (a0.length:Int)),(8,I y3)]) (λz4 y3=>[.obj c_a1_0 72 (Pt b_a1_0),.obj b_a1_0 125 (aW a1_0 z_a1_0),.obj c_a1_1 3 (I a1_1),.inv z_a1_0 (cf k a1_0)]) (eS k a0 a1_0 a1_1) k () 0 (λ_=>rfl) h (SE.fin [2,0,3,1] ⟨rfl,rfl,rfl,rfl,trivial⟩ rfl) (λn z4 y3 h=>?_)));unfold eS at h;refine sr (jb (bO rfl) ?_);refine nt (aj (ci h (λh=>?_) (λh=>?_)))
  .refine sk (aj (ak (sr (mq ?_))));refine aq (nt (sr ?_));iterate 3 refine mq ?_
   obtain⟨x5,j,h⟩:=aa h;refine jb (ba (t:=(.int .u8)) rfl yI pL j) ?_;refine ja (aA (t:=(.int .u8)) rfl pL rfl) ?_;obtain⟨r6,l,h⟩:=aa h;refine fr 2 ?_;refine fr 1 ?_;refine fr 3 ?_;refine fr 3 ?_;refine aK (Δ:=[_,_,_,_]) (F:=_) (λ_ _ _=>ag rfl _) rfl rfl (qL (fs:=[]) (cs:=[(Pv c_a1_0),(Pv c_a1_1)]) (ags:=[.eq (.int .u8 x5)]) [.tmp 15] rfl rfl S9 rfl (tj k x5 a1_0 b_a1_0 z_a1_0 c_a1_0 a1_1 c_a1_1 r6 l)) ⟨rfl,rfl,trivial⟩ λ_=>?_;refine nt (cv h (λh=>?_) (λh=>?_))
   .refine sr (mq ?_);refine aq (nt (aE (br (bL (bz ?_)))));obtain rfl:=hR _ h;exact aL () [_] 4 ⟨rfl,trivial⟩ rfl
   .refine bi (aS (tn (ae ?_)));obtain⟨x7,c,h⟩:=aa h;refine jb (bH rfl c) ?_;refine mq (nl ?_);exact jz ((),x7) h [2,0,3,1]
  .refine xa ?_;exact jz ((),()) h [1,3,0,2]
 .
  refine sr (cq (nt (aE ?_)));cases h;exact aL () [_] 4 ⟨rfl,trivial⟩ rfl
def eT(k:Nat)(a0:(List Int))(a1_0:ab)(a1_1:Int):Option Bool:=
 (iQ k a0 a1_0 a1_1).bind λr1=>
 some (decide (0≤r1))
theorem my(k:Nat)(a0:(List Int))(a1_0:ab)(b_a1_0 z_a1_0 c_a1_0:Nat)(a1_1:Int)(c_a1_1:Nat)(r:Bool)(h:eT k a0 a1_0 a1_1=some r):
 bX (dQ Tryz.prog) 86 [.rep (.slice (.int .u8)) a0,.eq (.func (.func 84) #[] #[(Pv c_a1_0),(Pv c_a1_1)])] [.obj b_a1_0 125 (aW a1_0 z_a1_0),.inv z_a1_0 (cf k a1_0),.obj c_a1_0 72 (Pt b_a1_0),.obj c_a1_1 3 (I a1_1)] (λ_:Unit=>(bJ [.eq (.bool r)],[.obj b_a1_0 125 (aW a1_0 z_a1_0),.inv z_a1_0 (cf k a1_0),.obj c_a1_0 72 (Pt b_a1_0),.obj c_a1_1 3 (I a1_1)])):=by
 unfold eT at h
 replace h:=bb h
 refine bX.of 9 Tryz.func86 rfl Tryz.ntmps86 rfl λS w0=>?_
 refine sr ?_
 refine cq ?_
 refine nt ?_
 refine sr ?_
 iterate 2 refine mq ?_
 obtain⟨r1,c,h⟩:=aa h
 have e:=nU k a0 a1_0 b_a1_0 z_a1_0 c_a1_0 a1_1 c_a1_1 r1 c
 refine fr 3 ?_
 refine fr 3 ?_
 refine fr 3 ?_
 refine fr 3 ?_
 refine aK (Δ:=[_,_,_,_]) (F:=_) (λ_ _ _=>ag rfl _) rfl rfl (aU [.tmp 5,.tmp 6] rfl rfl Q1 rfl e) ⟨rfl,rfl,trivial⟩ λ_=>?_
 refine jb (kp rfl) ?_
 refine aq ?_
 refine nt ?_
 refine aE ?_
 cases h
 exact aL () [_] 4 ⟨rfl,trivial⟩ rfl
def qd(k:Nat)(a0:ab)(a1:Int):Option ((List Int)×Int):=
 (mF k a0 ([]:(List Int)) [a1] ([]:(List Int))).bind λr3=>
 fK r3.1 (if¬(r3.2.2=0) then(some (([]:(List Int)),r3.2.2)) else(none)) (λq4=>if¬(r3.2.2=0) then(some (([]:(List Int)),r3.2.2)) else((jK k (qF (λ(c:(List Int)) (e:Int)=>
  (nj k a0 a1 e).bind λr=>
  fK r (none) (λs=>(eT k r3.2.1 s a1).bind λn=>
  if¬(n=true) then((cH (bM (length c+length [e]))).bind λ_=>
  some (c++[e],true)) else(some (c,true))))) a0.1 (([]:(List Int)),false)).bind λh=>
 if h.2=true then(none) else((pZ k h.1).bind λl=>
 (f5 k l).bind λj=>
 some (j,0))))
theorem vT(k:Nat)(a0:ab)(a1:Int)(r:(List Int)×Int)(h:qd k a0 a1=some r):
 bX (dQ Tryz.prog) 50 [.rep am a0,I a1] [] (λ_:Unit=>(bJ [.rep Tl r.1,I r.2],[])):=by
 unfold qd at h
 replace h:=bb h
 refine vp 44 Tryz.func50 rfl Tryz.ntmps50 rfl λS w0=>?_
 refine sr ?_
 refine bx λb1=>?_
 refine bx λb2=>?_
 refine cq ?_
 refine cq ?_
 refine nt ?_
 refine sr ?_
 refine fr 1 ?_
 refine lo cV ?_
 refine fr 1 ?_
 refine lo cJ ?_
 refine ja (bf (t:=Ti) [(.tmp 15,_)] [a1] rfl rfl ec (.cons rfl .int .nil) rfl rfl) ?_
 obtain⟨r3,UG,h⟩:=aa h
 have y:=ni k a0 ([]:(List Int)) [a1] ([]:(List Int)) r3 UG
 rcases hr:r3.1 with _ |q4
 .
  rw [hr] at h y;replace h:=tB h;refine aK (Δ:=[]) (F:=_) (λ_ _ _=>ag rfl _) rfl rfl (bF (N:=[(.tmp 14,.rep am a0),(.const (.slice none 0 0),.eq (.slice none 0 0)),(.tmp 16,.rep Tl [a1]),(.const (.slice none 0 0),.eq (.slice none 0 0))]) (aU [.tmp 14,.const (.slice none 0 0),.tmp 16,.const (.slice none 0 0)] rfl rfl ER rfl y) λ_ _ _ hn=>⟨hn.1,(aD (t:=Tl) (x:=([]:(List Int))) .nil rfl rfl hn.2.1),hn.2.2.1,(aD (t:=Tl) (x:=([]:(List Int))) .nil rfl rfl hn.2.2.2.1),trivial⟩) ⟨rfl,rfl,rfl,rfl,trivial⟩ λ_=>?_;refine mq ?_;refine xr ?_;refine xr ?_;refine xr ?_;refine aQ rfl rfl rfl (aX rfl Jp LM) trivial λb5=>?_;refine aq ?_;refine aF rfl rfl (aC rfl xq rfl rfl rfl) ⟨rfl,rfl,trivial⟩ ?_;refine aq (nt (aj (sr ?_)));refine mq ?_;refine jb (dW rfl) ?_;refine nt (cn h (λh=>?_) (λh=>?_))
  .refine sr (mq ?_);refine cq ?_;refine aq (nt (rx ?_));refine bo (eH (t:=Tl) (x:=([]:(List Int))) 4 rfl .nil rfl rfl) ?_;refine AC ?_;cases h;exact rb
  .cases h
 .
  rw [hr] at h y;replace h:=tA h;refine aK (Δ:=[]) (F:=_) (λ_ _ _=>ag rfl _) rfl rfl (bF (N:=[(.tmp 14,.rep am a0),(.const (.slice none 0 0),.eq (.slice none 0 0)),(.tmp 16,.rep Tl [a1]),(.const (.slice none 0 0),.eq (.slice none 0 0))]) (aU [.tmp 14,.const (.slice none 0 0),.tmp 16,.const (.slice none 0 0)] rfl rfl ER rfl y) λ_ _ _ hn=>⟨hn.1,(aD (t:=Tl) (x:=([]:(List Int))) .nil rfl rfl hn.2.1),hn.2.2.1,(aD (t:=Tl) (x:=([]:(List Int))) .nil rfl rfl hn.2.2.2.1),trivial⟩) ⟨rfl,rfl,rfl,rfl,trivial⟩ λz6=>?_;refine mq ?_;refine xr ?_;refine xr ?_;refine xr ?_;refine aQ rfl rfl rfl (aX rfl Jp LM) trivial λb7=>?_;refine aq ?_;refine aF rfl rfl (aC rfl xq rfl rfl rfl) ⟨rfl,rfl,trivial⟩ ?_;refine aq (nt (aj (sr ?_)));refine mq ?_;refine jb (dW rfl) ?_;refine nt (cn h (λh=>?_) (λh=>?_))
  .refine sr (mq ?_);refine cq ?_;refine aq (nt (rx ?_));refine bo (eH (t:=Tl) (x:=([]:(List Int))) 4 rfl .nil rfl rfl) ?_;refine AC ?_;cases h;exact rb
  .refine sk (sr (aQ rfl rfl rfl (aX rfl Jp LM) trivial λb8=>?_));refine nt (aj (sr (fl fG ?_)));refine fr 5 ?_;refine lo cJ ?_;refine aQ rfl rfl rfl (ay [.tmp 25] rfl rfl QK rfl (qT a0.1)) ⟨rfl,trivial⟩ λb9=>?_;refine nt (ak (iJ (SE.nil 73 (.int .u8)) ?_));refine dI 7 rfl ?_;refine dI 7 rfl ?_;refine dI 7 rfl ?_;refine dI 7 rfl ?_;refine dI 4 rfl ?_;refine dI 7 rfl ?_;refine dI 7 rfl ?_;refine dI 7 rfl ?_;obtain⟨u,qt,h⟩:=aa h;refine rz (Δ:=[.obj b9 3 (I a0.1),.obj b1 26 (.rep am a0),.obj b8 76 (.eq (.slice none 0 0)),.sl (.slice none 0 0) 73 (.int .u8) ([]:(List Int)),.obj b7 76 (.rep (.slice (.int .u8)) r3.2.1),.obj z6.1 125 (aW q4 z6.2),.inv z6.2 (cf k q4),.obj b2 3 (I a1)]) (F:=[]) (X:=Value) (J:=λ_=>PI u.2) (E:=λc=>[.obj b9 3 (I a0.1),.obj b1 26 (.rep am a0),.obj b8 76 (.eq c),.sl c 73 (.int .u8) u.1,.obj b7 76 (.rep (.slice (.int .u8)) r3.2.1),.obj z6.1 125 (aW q4 z6.2),.inv z6.2 (cf k q4),.obj b2 3 (I a1)]) (r0:=λ_=>.tup .any) rfl rfl Nh (λrec hp ha hb hs hpe hN hv l=>?_) (λdl c=>t7 (λhj=>?_) (λhj=>?_))
   .rcases rec with⟨st0,pe0,fn0,tm0,ps0,as0,bd0,df0⟩;dsimp only at hp ha hb hs hpe hN hv;subst hp hs hpe;have vN:Aw tm0 [(2,Pt b1),(3,Pt b2),(7,Pt b7),(9,Pt b8)]:=⟨congrArg A.eq (hv 2 _ rfl).symm,congrArg A.eq (hv 3 _ rfl).symm,congrArg A.eq (hv 7 _ rfl).symm,congrArg A.eq (hv 9 _ rfl).symm,trivial⟩;refine bX.pick (M:=(dQ Tryz.prog)) [1,0,2,3,4,5,6,7,8] [1,0,2,3,4,5,6,7,8] (om (λ(c:Value) (q:(List Int)×Bool)=>[.raw l (.loop (j6 ⟨.ready,none,fn0,tm0, #[27],as0,bd0,df0⟩ (PI q.2))),.obj b1 26 (.rep am a0),.obj b8 76 (.eq c),.sl c 73 (.int .u8) q.1,.obj b7 76 (.rep (.slice (.int .u8)) r3.2.1),.obj z6.1 125 (aW q4 z6.2),.inv z6.2 (cf k q4),.obj b2 3 (I a1)]) l (qF (λ(n:(List Int)) (j:Int)=>
    (nj k a0 a1 j).bind λs=>
    fK s (none) (λO=>(eT k r3.2.1 O a1).bind λD=>
    if¬(D=true) then((cH (bM (length n+length [j]))).bind λ_=>
    some (n++[j],true)) else(some (n,true))))) k a0.1 b9 (λc q p r' h=>?_) (.slice none 0 0) (([]:(List Int)),false) u qt) rfl (λ_=>rfl) (λ_=>rfl)
    obtain⟨rq,hq,h2,rfl⟩:=t8 h;obtain⟨n,b5⟩:=q;obtain rfl:b5=false:=hq;replace h:=bb h2;obtain⟨j,hpv⟩:∃x,x=p:=⟨_,rfl⟩;subst hpv;refine YT.pick (R':=(λc:Value=>(.eq (.bool rq.2),[.raw l (.loop (j6 ⟨.ready,none,fn0,tm0, #[27],as0,bd0,df0⟩ (PI (!rq.2)))),.obj b1 26 (.rep am a0),.obj b8 76 (.eq c),.sl c 73 (.int .u8) rq.1,.obj b7 76 (.rep (.slice (.int .u8)) r3.2.1),.obj z6.1 125 (aW q4 z6.2),.inv z6.2 (cf k q4),.obj b2 3 (I a1)]))) [0,1,2,3,4,5,6,7] [0,1,2,3,4,5,6,7] (II ha hb (N:=44) (Γ:=[(2,Pt b1),(3,Pt b2),(7,Pt b7),(9,Pt b8)]) rfl hN (by decide) vN (λS w=>?_)) rfl (λ_=>rfl) (λ_=>rfl);refine ae (aq (nl ?_));refine AG rfl rfl ?_;refine ak (sr (fr 1 ?_));refine lo cV ?_;refine fr 7 ?_;refine lo cJ ?_;refine mq ?_;obtain⟨s,mw,h⟩:=aa h;have e:=vR k a0 a1 j s mw;rcases hr:s with _ |O
    .rw [hr] at h e;replace h:=tB h;refine aK (Δ:=[]) (F:=_) (λ_ _ _=>ag rfl _) rfl rfl (ay [.tmp 28,.tmp 29,.tmp 30] rfl rfl QI rfl e) ⟨rfl,rfl,rfl,trivial⟩ λ_=>?_;cases h
    .rw [hr] at h e;replace h:=tA h;refine aK (Δ:=[]) (F:=_) (λ_ _ _=>ag rfl _) rfl rfl (ay [.tmp 28,.tmp 29,.tmp 30] rfl rfl QI rfl e) ⟨rfl,rfl,rfl,trivial⟩ λQ=>?_;refine aQ rfl rfl rfl (aX rfl RU TR) trivial λzz=>?_;refine aF rfl rfl (aC rfl JJ rfl rfl rfl) ⟨rfl,rfl,trivial⟩ ?_;refine nt (sr (jb (rN [] [.tmp 11,.tmp 3] [] [(Pv zz),(Pv b2)] rfl rfl rfl) ?_));refine aq (nt (sr ?_));refine fr 8 ?_;refine lo xq ?_;refine mq ?_;obtain⟨D,mc,h⟩:=aa h;refine fr 4 ?_;refine fr 2 ?_;refine fr 4 ?_;refine fr 4 ?_;refine aK (Δ:=[_,_,_,_]) (F:=_) (λ_ _ _=>ag rfl _) rfl rfl (aU [.tmp 33,.tmp 34] rfl rfl S5 rfl (my k r3.2.1 O Q.1 Q.2 zz a1 b2 D mc)) ⟨rfl,rfl,trivial⟩ λ_=>?_;refine ja (ig rfl) ?_;refine nt (cw h (λh=>?_) (λh=>?_))
     .refine ae (fr 7 ?_);refine lo xq ?_;refine mq ?_;refine ja (bf (t:=(.int .u8)) [(.tmp 38,_)] [j] rfl rfl JX (.cons rfl .int .nil) rfl rfl) ?_;obtain⟨UH,Y,h⟩:=aa h;refine fr 8 ?_;refine eh rfl rfl rfl (cx rfl rfl JX (ao Y)) ⟨rfl,rfl,trivial⟩ λUE=>?_;refine mh λo22=>?_;refine fr 1 ?_;refine aF rfl rfl (aC rfl xq o22 rfl rfl) ⟨rfl,rfl,trivial⟩ ?_;refine aI (aS (bp 5 rfl ?_));refine bp 10 rfl ?_;refine bp 10 rfl ?_;refine bp 8 rfl ?_;refine bp 5 rfl ?_;refine bp 5 rfl ?_;refine bp 9 rfl ?_;refine bp 10 rfl ?_;cases h;exact pq UE 7 rfl
     .refine bi (aS (bp 3 rfl ?_));refine bp 10 rfl ?_;refine bp 10 rfl ?_;refine bp 6 rfl ?_;refine bp 10 rfl ?_;refine bp 10 rfl ?_;refine bp 9 rfl ?_;refine bp 10 rfl ?_;cases h;exact pq c 7 rfl
   .replace h:=cK (MS hj) h;refine aS (tn (sr (fr 3 ?_)));refine lo xq ?_;obtain⟨U,gw,h⟩:=aa h;refine fr 4 ?_;refine kb (lF (N:=[(.tmp 41,.eq c),(.func 88,.eq (.func (.func 88) #[] #[]))]) (ay [.tmp 41,.func 88] rfl rfl SZ rfl (vS k u.1 U gw)) (λ_ _ _ hv hn=>⟨(lend hn.1 hv),hn.2.1,trivial⟩) (λ_=>⟨rfl,ox⟩)) ?_;obtain⟨UF,Z,h⟩:=aa h;refine ja (ay [.tmp 42] rfl rfl OJ rfl (kg k U UF Z)) ?_;refine aq ?_;refine cq (nt (aE ?_));refine bp 2 rfl ?_;refine Ea ?_;cases h;exact rb
   .replace h:=eu (MQ hj) h;cases h
def oq(k:Nat):Option Bool:=
 (iI k ([]:(List aG))).bind λr1=>
 (jl k r1 [0]).bind λr2=>
 (iI k ([]:(List aG))).bind λr3=>
 (gP k r3).bind λr4=>
 (iI k ([]:(List aG))).bind λr5=>
 (rY k r5 2).bind λr6=>
 (iI k ([]:(List aG))).bind λr8=>
 (rZ k r8 [0] 3).bind λr9=>
 (iI k ([]:(List aG))).bind λu=>
 (uE k u 2).bind λc=>
 (iI k ([]:(List aG))).bind λs=>
 (qd k s 2).bind λe=>
 ((if r2.2=0 then(if r4.2=0 then(if r6.2=0 then(if r9.2=0 then(if c.2.2=0 then(if e.2=0 then(if r6.1=(1,3) then(if c.1=2 then(if c.2.1=2 then((fj k r2.1 [[1,(-1:Int),(-1:Int),(-1:Int)],[2,0,(-1:Int),(-1:Int)],[3,1,(-1:Int),(-1:Int)],[3,2,0,(-1:Int)],[(-1:Int),3,1,0]]).bind λr=>
 if r=true then((fj k r4.1 [[0],[0,1],[1]]).bind λn=>
 if n=true then((fg k r9.1 [0,1,3]).bind λl=>
 if l=true then((fg k e.1 [1,2]).bind λj=>
 some j) else(some false)) else(some false)) else(some false)) else(some false)) else(some false)) else(some false)) else(some false)) else(some false)) else(some false)) else(some false)) else(some false)) else(some false)):Option (Bool)).bind λh=>
 some h
theorem s5(k:Nat)(r:Bool)(h:oq k=some r):
 bX (dQ Tryz.prog) 16 [] [] (λ_:Unit=>(bJ [.eq (.bool r)],[])):=by
 unfold oq at h
 replace h:=bb h
 refine bX.of 110 Tryz.func16 rfl Tryz.ntmps16 rfl λS w0=>?_
 refine sr ?_
 refine cq ?_
 refine nt ?_
 refine sr ?_
 obtain⟨r1,UK,h⟩:=aa h
 have US:=gZ k ([]:(List aG)) r1 UK
 refine ja (bF (N:=[(.const (.slice none 0 0),.eq (.slice none 0 0))]) (ay [.const (.slice none 0 0)] rfl rfl EQ rfl US) λ_ _ _ hn=>⟨(aD (t:=(.slice aH)) (x:=([]:(List aG))) .nil rfl rfl hn.1),trivial⟩) ?_
 refine ja (bf (t:=Ti) [(.const (.int .i64 (0)),_)] [0] rfl rfl ec (.cons rfl .int .nil) rfl rfl) ?_
 obtain⟨r2,UJ,h⟩:=aa h
 have UR:=pD k r1 [0] r2 UJ
 refine jb (aU [.tmp 15,.tmp 16] rfl rfl QY rfl UR) ?_
 refine mq ?_
 refine xr ?_
 refine xr ?_
 refine aq ?_
 refine aq ?_
 refine nt ?_
 refine sr ?_
 obtain⟨r3,UI,h⟩:=aa h
 have UQ:=gZ k ([]:(List aG)) r3 UI
 refine ja (bF (N:=[(.const (.slice none 0 0),.eq (.slice none 0 0))]) (ay [.const (.slice none 0 0)] rfl rfl EQ rfl UQ) λ_ _ _ hn=>⟨(aD (t:=(.slice aH)) (x:=([]:(List aG))) .nil rfl rfl hn.1),trivial⟩) ?_
 obtain⟨r4,UH,h⟩:=aa h
 have UP:=l9 k r3 r4 UH
 refine ja (aU [.tmp 21] rfl rfl OL rfl UP) ?_
 refine mq ?_
 refine xr ?_
 refine xr ?_
 refine aq ?_
 refine aq ?_
 refine nt ?_
 refine sr ?_
 obtain⟨r5,UG,h⟩:=aa h
 have UO:=gZ k ([]:(List aG)) r5 UG
 refine ja (bF (N:=[(.const (.slice none 0 0),.eq (.slice none 0 0))]) (ay [.const (.slice none 0 0)] rfl rfl EQ rfl UO) λ_ _ _ hn=>⟨(aD (t:=(.slice aH)) (x:=([]:(List aG))) .nil rfl rfl hn.1),trivial⟩) ?_
 obtain⟨r6,UF,h⟩:=aa h
 have UN:=xQ k r5 2 r6 UF
 refine jb (aU [.tmp 26,.const (.int .i64 (2))] rfl rfl TM rfl UN) ?_
 refine mq ?_
 refine xr ?_
 refine xr ?_
 refine aQ rfl rfl rfl (aX rfl AT Q8) trivial λb7=>?_
 refine aF rfl rfl (aC rfl vF rfl rfl rfl) ⟨rfl,rfl,trivial⟩ ?_
 refine aq ?_
 refine nt ?_
 refine sr ?_
 obtain⟨r8,UE,h⟩:=aa h
 have UM:=gZ k ([]:(List aG)) r8 UE
 refine ja (bF (N:=[(.const (.slice none 0 0),.eq (.slice none 0 0))]) (ay [.const (.slice none 0 0)] rfl rfl EQ rfl UM) λ_ _ _ hn=>⟨(aD (t:=(.slice aH)) (x:=([]:(List aG))) .nil rfl rfl hn.1),trivial⟩) ?_
 refine ja (bf (t:=Ti) [(.const (.int .i64 (0)),_)] [0] rfl rfl ec (.cons rfl .int .nil) rfl rfl) ?_
 obtain⟨r9,zz,h⟩:=aa h
 have UL:=xT k r8 [0] 3 r9 zz
 refine jc (aU [.tmp 31,.tmp 32,.const (.int .i64 (3))] rfl rfl Tz rfl UL) ?_
 refine mq ?_
 refine xr ?_
 refine xr ?_
 refine aq ?_
 refine aq ?_
 refine nt ?_
 refine sr ?_
 obtain⟨u,O,h⟩:=aa h
 have Y:=gZ k ([]:(List aG)) u O
 refine ja (bF (N:=[(.const (.slice none 0 0),.eq (.slice none 0 0))]) (ay [.const (.slice none 0 0)] rfl rfl EQ rfl Y) λ_ _ _ hn=>⟨(aD (t:=(.slice aH)) (x:=([]:(List aG))) .nil rfl rfl hn.1),trivial⟩) ?_
 obtain⟨qt,M,h⟩:=aa h
 have X:=zA k u 2 qt M
 refine jb (aU [.tmp 37,.const (.int .i64 (2))] rfl rfl Tv rfl X) ?_
 refine mq ?_
 refine xr ?_
 refine xr ?_
 refine xr ?_
 refine aq ?_
 refine aq ?_
 refine aq ?_
 refine nt ?_
 refine sr ?_
 obtain⟨n,J,h⟩:=aa h
 have U:=gZ k ([]:(List aG)) n J
 refine ja (bF (N:=[(.const (.slice none 0 0),.eq (.slice none 0 0))]) (ay [.const (.slice none 0 0)] rfl rfl EQ rfl U) λ_ _ _ hn=>⟨(aD (t:=(.slice aH)) (x:=([]:(List aG))) .nil rfl rfl hn.1),trivial⟩) ?_
 obtain⟨l,I,h⟩:=aa h
 have Q:=vT k n 2 l I
 refine jb (aU [.tmp 43,.const (.int .i64 (2))] rfl rfl Tu rfl Q) ?_
 refine mq ?_
 refine xr ?_
 refine xr ?_
 refine aq ?_
 refine aq ?_
 refine nt ?_
 refine aN (Z:=Unit) (α:=Bool) (λe c=>[(0,.eq (.bool c))]) (λe c=>[]) h (λK h=>?_) (λe c h=>?_)
 .
  refine ae (mq ?_);refine jb (hJ rfl) ?_;refine mq ?_;refine bN (s:=49) rfl (λhb=>?_) (λhb=>?_)
  .replace h:=eu (tw hb) h;refine gm ?_;refine gb (hJ rfl) ?_;refine pt ?_;refine mq ?_;refine bN (s:=53) rfl (λhb=>?_) (λhb=>?_)
   .replace h:=eu (tw hb) h;refine gm ?_;refine gb (hJ rfl) ?_;refine pt ?_;refine mq ?_;refine bN (s:=57) rfl (λhb=>?_) (λhb=>?_)
    .replace h:=eu (tw hb) h;refine gm ?_;refine gb (hJ rfl) ?_;refine pt ?_;refine mq ?_;refine bN (s:=61) rfl (λhb=>?_) (λhb=>?_)
     .replace h:=eu (tw hb) h;refine gm ?_;refine gb (hJ rfl) ?_;refine pt ?_;refine mq ?_;refine bN (s:=65) rfl (λhb=>?_) (λhb=>?_)
      .replace h:=eu (tw hb) h;refine gm ?_;refine gb (hJ rfl) ?_;refine pt ?_;refine mq ?_;refine bN (s:=69) rfl (λhb=>?_) (λhb=>?_)
       .replace h:=eu (tw hb) h;refine eO rfl rfl rfl rfl rfl rfl (an rfl vF (nK) rfl) ⟨rfl,trivial⟩ ?_;refine gb (cR [(0,.const (.int .i64 (1)),_),(1,.const (.int .i64 (3)),_)] rfl GU AT Aq (gA ⟨rfl,rfl,trivial⟩) rfl) ?_;refine eJ (eH (t:=bS) (x:=(1,3)) 71 rfl (.agg (.pair .int .int)) trivial rfl) ?_;refine gb (Oj rfl SV rfl) ?_;refine pt ?_;refine mq ?_;refine bN (s:=74) rfl (λhb=>?_) (λhb=>?_)
        .replace h:=eu (tw hb) h;refine gm ?_;refine gb (hJ rfl) ?_;refine pt ?_;refine mq ?_;refine bN (s:=78) rfl (λhb=>?_) (λhb=>?_)
         .replace h:=eu (tw hb) h;refine gm ?_;refine gb (hJ rfl) ?_;refine pt ?_;refine mq ?_;refine bN (s:=82) rfl (λhb=>?_) (λhb=>?_)
          .replace h:=eu (tw hb) h;refine gm ?_;refine km rfl rfl rfl rfl rfl rfl (bf (t:=Ti) [(.const (.int .i64 (1)),_),(.const (.int .i64 (-1)),_),(.const (.int .i64 (-1)),_),(.const (.int .i64 (-1)),_)] [1,(-1:Int),(-1:Int),(-1:Int)] rfl rfl ec (.cons rfl .int (.cons rfl .int (.cons rfl .int (.cons rfl .int .nil)))) rfl rfl) ⟨rfl,rfl,rfl,rfl,trivial⟩ ?_;refine km rfl rfl rfl rfl rfl rfl (bf (t:=Ti) [(.const (.int .i64 (2)),_),(.const (.int .i64 (0)),_),(.const (.int .i64 (-1)),_),(.const (.int .i64 (-1)),_)] [2,0,(-1:Int),(-1:Int)] rfl rfl ec (.cons rfl .int (.cons rfl .int (.cons rfl .int (.cons rfl .int .nil)))) rfl rfl) ⟨rfl,rfl,rfl,rfl,trivial⟩ ?_;refine km rfl rfl rfl rfl rfl rfl (bf (t:=Ti) [(.const (.int .i64 (3)),_),(.const (.int .i64 (1)),_),(.const (.int .i64 (-1)),_),(.const (.int .i64 (-1)),_)] [3,1,(-1:Int),(-1:Int)] rfl rfl ec (.cons rfl .int (.cons rfl .int (.cons rfl .int (.cons rfl .int .nil)))) rfl rfl) ⟨rfl,rfl,rfl,rfl,trivial⟩ ?_;refine km rfl rfl rfl rfl rfl rfl (bf (t:=Ti) [(.const (.int .i64 (3)),_),(.const (.int .i64 (2)),_),(.const (.int .i64 (0)),_),(.const (.int .i64 (-1)),_)] [3,2,0,(-1:Int)] rfl rfl ec (.cons rfl .int (.cons rfl .int (.cons rfl .int (.cons rfl .int .nil)))) rfl rfl) ⟨rfl,rfl,rfl,rfl,trivial⟩ ?_;refine km rfl rfl rfl rfl rfl rfl (bf (t:=Ti) [(.const (.int .i64 (-1)),_),(.const (.int .i64 (3)),_),(.const (.int .i64 (1)),_),(.const (.int .i64 (0)),_)] [(-1:Int),3,1,0] rfl rfl ec (.cons rfl .int (.cons rfl .int (.cons rfl .int (.cons rfl .int .nil)))) rfl rfl) ⟨rfl,rfl,rfl,rfl,trivial⟩ ?_;refine km rfl rfl rfl rfl rfl rfl (bf (t:=Tl) [(.tmp 84,_),(.tmp 85,_),(.tmp 86,_),(.tmp 87,_),(.tmp 88,_)] [[1,(-1:Int),(-1:Int),(-1:Int)],[2,0,(-1:Int),(-1:Int)],[3,1,(-1:Int),(-1:Int)],[3,2,0,(-1:Int)],[(-1:Int),3,1,0]] rfl rfl pw (.cons rfl .rep (.cons rfl .rep (.cons rfl .rep (.cons rfl .rep (.cons rfl .rep .nil))))) rfl rfl) ⟨rfl,rfl,rfl,rfl,rfl,trivial⟩ ?_;obtain⟨mw,F,h⟩:=aa h;refine gb (ay [.tmp 83,.tmp 89] rfl rfl OI rfl (jp k r2.1 [[1,(-1:Int),(-1:Int),(-1:Int)],[2,0,(-1:Int),(-1:Int)],[3,1,(-1:Int),(-1:Int)],[3,2,0,(-1:Int)],[(-1:Int),3,1,0]] mw F)) ?_;refine pt ?_;refine mq ?_;refine bN (s:=92) rfl (λhb=>?_) (λhb=>?_)
           .replace h:=eu (MQ hb) h;refine gm ?_;refine ga (bf (t:=Ti) [(.const (.int .i64 (0)),_)] [0] rfl rfl ec (.cons rfl .int .nil) rfl rfl) ?_;refine gb (bf (t:=Ti) [(.const (.int .i64 (0)),_),(.const (.int .i64 (1)),_)] [0,1] rfl rfl ec (.cons rfl .int (.cons rfl .int .nil)) rfl rfl) ?_;refine ga (bf (t:=Ti) [(.const (.int .i64 (1)),_)] [1] rfl rfl ec (.cons rfl .int .nil) rfl rfl) ?_;refine gc (bf (t:=Tl) [(.tmp 94,_),(.tmp 95,_),(.tmp 96,_)] [[0],[0,1],[1]] rfl rfl pw (.cons rfl .rep (.cons rfl .rep (.cons rfl .rep .nil))) rfl rfl) ?_;obtain⟨mc,E,h⟩:=aa h;refine gb (ay [.tmp 93,.tmp 97] rfl rfl OI rfl (jp k r4.1 [[0],[0,1],[1]] mc E)) ?_;refine pt ?_;refine mq ?_;refine bN (s:=100) rfl (λhb=>?_) (λhb=>?_)
            .replace h:=eu (MQ hb) h;refine gm ?_;refine gc (bf (t:=Ti) [(.const (.int .i64 (0)),_),(.const (.int .i64 (1)),_),(.const (.int .i64 (3)),_)] [0,1,3] rfl rfl ec (.cons rfl .int (.cons rfl .int (.cons rfl .int .nil))) rfl rfl) ?_;obtain⟨gw,D,h⟩:=aa h;refine gb (ay [.tmp 101,.tmp 102] rfl rfl Ln rfl (iy k r9.1 [0,1,3] gw D)) ?_;refine pt ?_;refine mq ?_;refine bN (s:=105) rfl (λhb=>?_) (λhb=>?_)
             .replace h:=eu (MQ hb) h;refine gm ?_;refine gb (bf (t:=Ti) [(.const (.int .i64 (1)),_),(.const (.int .i64 (2)),_)] [1,2] rfl rfl ec (.cons rfl .int (.cons rfl .int .nil)) rfl rfl) ?_;obtain⟨j,y,h⟩:=aa h;refine gb (ay [.tmp 106,.tmp 107] rfl rfl Ln rfl (iy k l.1 [1,2] j y)) ?_;refine pt ?_;refine aq (nl ?_);exact jz ((),j) h []
             .replace h:=cK (MS hb) h;iterate 3 refine gn ?_
              refine pf ?_;refine aq (nl ?_);exact jz ((),false) h []
            .replace h:=cK (MS hb) h;iterate 3 refine gn ?_
             refine pf ?_;refine mq ?_;iterate 3 refine gn ?_
             refine pf ?_;refine aq (nl ?_);exact jz ((),false) h []
           .replace h:=cK (MS hb) h;iterate 6 refine gn ?_
            refine pf ?_;refine mq ?_;iterate 3 refine gn ?_
            refine pf ?_;refine mq ?_;iterate 3 refine gn ?_
            refine pf ?_;refine aq (nl ?_);exact jz ((),false) h []
          .replace h:=cK (tz hb) h;iterate 8 refine gn ?_
           refine pf ?_;refine mq ?_;iterate 6 refine gn ?_
           refine pf ?_;refine mq ?_;iterate 3 refine gn ?_
           refine pf ?_;refine mq ?_;iterate 3 refine gn ?_
           refine pf ?_;refine aq (nl ?_);exact jz ((),false) h []
         .replace h:=cK (tz hb) h;iterate 2 refine gn ?_
          refine pf ?_;refine mq ?_;iterate 8 refine gn ?_
          refine pf ?_;refine mq ?_;iterate 6 refine gn ?_
          refine pf ?_;refine mq ?_;iterate 3 refine gn ?_
          refine pf ?_;refine mq ?_;iterate 3 refine gn ?_
          refine pf ?_;refine aq (nl ?_);exact jz ((),false) h []
        .replace h:=cK (tz hb) h;iterate 2 refine gn ?_
         refine pf ?_;refine mq ?_;iterate 2 refine gn ?_
         refine pf ?_;refine mq ?_;iterate 8 refine gn ?_
         refine pf ?_;refine mq ?_;iterate 6 refine gn ?_
         refine pf ?_;refine mq ?_;iterate 3 refine gn ?_
         refine pf ?_;refine mq ?_;iterate 3 refine gn ?_
         refine pf ?_;refine aq (nl ?_);exact jz ((),false) h []
       .replace h:=cK (tz hb) h;iterate 3 refine gn ?_
        refine pf ?_;refine mq ?_;iterate 2 refine gn ?_
        refine pf ?_;refine mq ?_;iterate 2 refine gn ?_
        refine pf ?_;refine mq ?_;iterate 8 refine gn ?_
        refine pf ?_;refine mq ?_;iterate 6 refine gn ?_
        refine pf ?_;refine mq ?_;iterate 3 refine gn ?_
        refine pf ?_;refine mq ?_;iterate 3 refine gn ?_
        refine pf ?_;refine aq (nl ?_);exact jz ((),false) h []
      .replace h:=cK (tz hb) h;iterate 2 refine gn ?_
       refine pf ?_;refine mq ?_;iterate 3 refine gn ?_
       refine pf ?_;refine mq ?_;iterate 2 refine gn ?_
       refine pf ?_;refine mq ?_;iterate 2 refine gn ?_
       refine pf ?_;refine mq ?_;iterate 8 refine gn ?_
       refine pf ?_;refine mq ?_;iterate 6 refine gn ?_
       refine pf ?_;refine mq ?_;iterate 3 refine gn ?_
       refine pf ?_;refine mq ?_;iterate 3 refine gn ?_
       refine pf ?_;refine aq (nl ?_);exact jz ((),false) h []
     .replace h:=cK (tz hb) h;iterate 2 refine gn ?_
      refine pf ?_;refine mq ?_;iterate 2 refine gn ?_
      refine pf ?_;refine mq ?_;iterate 3 refine gn ?_
      refine pf ?_;refine mq ?_;iterate 2 refine gn ?_
      refine pf ?_;refine mq ?_;iterate 2 refine gn ?_
      refine pf ?_;refine mq ?_;iterate 8 refine gn ?_
      refine pf ?_;refine mq ?_;iterate 6 refine gn ?_
      refine pf ?_;refine mq ?_;iterate 3 refine gn ?_
      refine pf ?_;refine mq ?_;iterate 3 refine gn ?_
      refine pf ?_;refine aq (nl ?_);exact jz ((),false) h []
    .replace h:=cK (tz hb) h;iterate 2 refine gn ?_
     refine pf ?_;refine mq ?_;iterate 2 refine gn ?_
     refine pf ?_;refine mq ?_;iterate 2 refine gn ?_
     refine pf ?_;refine mq ?_;iterate 3 refine gn ?_
     refine pf ?_;refine mq ?_;iterate 2 refine gn ?_
     refine pf ?_;refine mq ?_;iterate 2 refine gn ?_
     refine pf ?_;refine mq ?_;iterate 8 refine gn ?_
     refine pf ?_;refine mq ?_;iterate 6 refine gn ?_
     refine pf ?_;refine mq ?_;iterate 3 refine gn ?_
     refine pf ?_;refine mq ?_;iterate 3 refine gn ?_
     refine pf ?_;refine aq (nl ?_);exact jz ((),false) h []
   .replace h:=cK (tz hb) h;iterate 2 refine gn ?_
    refine pf ?_;refine mq ?_;iterate 2 refine gn ?_
    refine pf ?_;refine mq ?_;iterate 2 refine gn ?_
    refine pf ?_;refine mq ?_;iterate 2 refine gn ?_
    refine pf ?_;refine mq ?_;iterate 3 refine gn ?_
    refine pf ?_;refine mq ?_;iterate 2 refine gn ?_
    refine pf ?_;refine mq ?_;iterate 2 refine gn ?_
    refine pf ?_;refine mq ?_;iterate 8 refine gn ?_
    refine pf ?_;refine mq ?_;iterate 6 refine gn ?_
    refine pf ?_;refine mq ?_;iterate 3 refine gn ?_
    refine pf ?_;refine mq ?_;iterate 3 refine gn ?_
    refine pf ?_;refine aq (nl ?_);exact jz ((),false) h []
  .replace h:=cK (tz hb) h;iterate 2 refine gn ?_
   refine pf ?_;refine mq ?_;iterate 2 refine gn ?_
   refine pf ?_;refine mq ?_;iterate 2 refine gn ?_
   refine pf ?_;refine mq ?_;iterate 2 refine gn ?_
   refine pf ?_;refine mq ?_;iterate 2 refine gn ?_
   refine pf ?_;refine mq ?_;iterate 3 refine gn ?_
   refine pf ?_;refine mq ?_;iterate 2 refine gn ?_
   refine pf ?_;refine mq ?_;iterate 2 refine gn ?_
   refine pf ?_;refine mq ?_;iterate 8 refine gn ?_
   refine pf ?_;refine mq ?_;iterate 6 refine gn ?_
   refine pf ?_;refine mq ?_;iterate 3 refine gn ?_
   refine pf ?_;refine mq ?_;iterate 3 refine gn ?_
   refine pf ?_;refine aq (nl ?_);exact jz ((),false) h []
 .
  refine aE ?_;cases h;exact ra
def iH(k:Nat)(r2:ab×bD)(r5:(List (List Int))×Int):Nat->((List Int)×Int×Int×(List aG)×Int)->Option ((List aG)×(List Int)×Int×Int)
 |0,_=>none
 |n+1,c=>
  if 0 < c.2.2.2.2 then((il k (c.1,c.2.1,c.2.2.1) (r2.1.1,r2.1.2.1,r2.1.2.2.1,r2.1.2.2.2.1,r2.1.2.2.2.2.1,())).bind λe=>
  (aV r5.1 e.1.2.1).bind λl=>
  (aV l e.1.1).bind λh=>
  (cH (bM (length c.2.2.2.1+length [(e.1.1,e.1.2.1,decide (r2.1.2.2.1≤h))]))).bind λ_=>
  (ck (c.2.2.2.2 - 1)).bind λj=>
  iH k r2 r5 n (e.2.1,e.2.2.1,e.2.2.2,c.2.2.2.1++[(e.1.1,e.1.2.1,decide (r2.1.2.2.1≤h))],j)) else(some (c.2.2.2.1,c.1,c.2.1,c.2.2.1))
def mK(k:Nat)(a0:bD):Option (ab×(List Int)×(List (List Int))×Bool×bD):=
 (jM k (a0.1,a0.2.1,a0.2.2) 4 4).bind λr2=>
 (jN k (r2.2.1,r2.2.2.1,r2.2.2.2) r2.1.1).bind λr4=>
 (jl k (r2.1.1,r2.1.2.1,r2.1.2.2.1,r2.1.2.2.2.1,r2.1.2.2.2.2.1,[]) r4.1).bind λr5=>
 ((if¬(r5.2=0) then(some true) else((mJ k (r2.1.1,r2.1.2.1,r2.1.2.2.1,r2.1.2.2.2.1,r2.1.2.2.2.2.1,[]) r5.1).bind λr8=>
 some (!r8))):Option (Bool)).bind λx6=>
 if x6=true then(some ((r2.1.1,r2.1.2.1,r2.1.2.2.1,r2.1.2.2.2.1,r2.1.2.2.2.2.1,[]),([]:(List Int)),([]:(List (List Int))),false,(r4.2.1,r4.2.2.1,r4.2.2.2))) else((((bR k (r4.2.1,r4.2.2.1,r4.2.2.2) 4).bind λc=>
 iH k r2 r5 k (c.2.1,c.2.2.1,c.2.2.2,([]:(List aG)),c.1)):Option ((List aG)×(List Int)×Int×Int)).bind λx9=>
 some ((r2.1.1,r2.1.2.1,r2.1.2.2.1,r2.1.2.2.2.1,r2.1.2.2.2.2.1,x9.1),r4.1,r5.1,true,(x9.2.1,x9.2.2.1,x9.2.2.2)))
theorem zL(k:Nat)(a0:bD)(c:Nat)(r:ab×(List Int)×(List (List Int))×Bool×bD)(h:mK k a0=some r):
 bX (dQ Tryz.prog) 17 [Pt c] [.obj c 71 (.agg (.pair (.rep Tl a0.1) (.pair (I a0.2.1) (.eq (.int .u64 a0.2.2)))))] (λ_:Unit=>(bJ [.rep am r.1,.rep Tl r.2.1,.rep (.slice Tl) r.2.2.1,.eq (.bool r.2.2.2.1)],[.obj c 71 (.agg (.pair (.rep Tl r.2.2.2.2.1) (.pair (I r.2.2.2.2.2.1) (.eq (.int .u64 r.2.2.2.2.2.2)))))])):=by
 unfold mK at h
 replace h:=bb h
 refine bX.of 64 Tryz.func17 rfl Tryz.ntmps17 rfl λS w0=>?_
 refine sr ?_
 refine aQ rfl rfl rfl (aX rfl mV tC) trivial λb1=>?_
 refine cq ?_
 refine cq ?_
 refine cq ?_
 refine nt ?_
 refine sr ?_
 refine mq ?_
 obtain⟨r2,mw,h⟩:=aa h
 have UE:=uL k (a0.1,a0.2.1,a0.2.2) c 4 4 r2 mw
 refine fr 1 ?_
 refine kc (ay [.tmp 12,.const (.int .i64 (4)),.const (.int .i64 (4))] rfl rfl TD rfl UE) ?_
 refine aQ rfl rfl rfl (aX rfl mV tC) trivial λb3=>?_
 refine aF rfl rfl (aC rfl cV trivial rfl rfl) ⟨rfl,rfl,trivial⟩ ?_
 refine nt ?_
 refine sr ?_
 refine mq ?_
 refine fl fG ?_
 refine lo cJ ?_
 obtain⟨r4,mc,h⟩:=aa h
 have zz:=uM k (r2.2.1,r2.2.2.1,r2.2.2.2) c r2.1.1 r4 mc
 refine fr 1 ?_
 refine kb (ay [.tmp 14,.tmp 16] rfl rfl TC rfl zz) ?_
 refine aq ?_
 refine nt ?_
 refine sr ?_
 refine fr 1 ?_
 refine lo cV ?_
 refine mq ?_
 obtain⟨r5,gw,h⟩:=aa h
 have qt:=pD k (r2.1.1,r2.1.2.1,r2.1.2.2.1,r2.1.2.2.2.1,r2.1.2.2.2.2.1,[]) r4.1 r5 gw
 refine jb (bF (N:=[(.tmp 19,.agg (.pair (I r2.1.1) (.pair (I r2.1.2.1) (.pair (I r2.1.2.2.1) (.pair (I r2.1.2.2.2.1) (.pair (.rep (.slice (.slice Tl)) r2.1.2.2.2.2.1) (.eq (.slice none 0 0)))))))),(.tmp 20,.rep Tl r4.1)]) (aU [.tmp 19,.tmp 20] rfl rfl QY rfl qt) λ_ _ _ hn=>⟨(aD (t:=am) (x:=(r2.1.1,r2.1.2.1,r2.1.2.2.1,r2.1.2.2.2.1,r2.1.2.2.2.2.1,[])) (.agg (.pair .int (.pair .int (.pair .int (.pair .int (.pair .rep .nil)))))) trivial rfl hn.1),hn.2.1,trivial⟩) ?_
 refine mq ?_
 refine xr ?_
 refine xr ?_
 refine aq ?_
 refine aq ?_
 refine nt ?_
 refine aj ?_
 refine aN (Z:=Unit) (α:=Bool) (λz7 x6=>[(0,Pt c),(2,Pt b1),(6,Pt b3),(7,.rep Tl r4.1),(8,.rep (.slice Tl) r5.1),(31,.eq (.bool x6))]) (λz7 x6=>[.obj c 71 (.agg (.pair (.rep Tl r4.2.1) (.pair (I r4.2.2.1) (.eq (.int .u64 r4.2.2.2))))),.obj b1 26 (.agg (.pair (I 0) (.pair (I 0) (.pair (I 0) (.pair (I 0) (.pair (.eq (.slice none 0 0)) (.eq (.slice none 0 0)))))))),.obj b3 26 (.agg (.pair (I r2.1.1) (.pair (I r2.1.2.1) (.pair (I r2.1.2.2.1) (.pair (I r2.1.2.2.2.1) (.pair (.rep (.slice (.slice Tl)) r2.1.2.2.2.2.1) (.eq (.slice none 0 0))))))))]) h (λK h=>?_) (λz7 x6 h=>?_)
 .
  refine ae (mq ?_);refine jb (dW rfl) ?_;refine mq ?_;refine bN (s:=26) rfl (λhb=>?_) (λhb=>?_)
  .replace h:=eu (KE hb) h;iterate 4 refine gn ?_
   refine pt (nl ?_);exact jz ((),true) h [1,2,0]
  .replace h:=cK (xP hb) h;refine eO rfl rfl rfl rfl rfl rfl (an rfl cV (nK) rfl) ⟨rfl,trivial⟩ ?_;refine gm ?_;obtain⟨r8,Y,h⟩:=aa h;refine gb (bF (N:=[(.tmp 27,.agg (.pair (I r2.1.1) (.pair (I r2.1.2.1) (.pair (I r2.1.2.2.1) (.pair (I r2.1.2.2.2.1) (.pair (.rep (.slice (.slice Tl)) r2.1.2.2.2.2.1) (.eq (.slice none 0 0)))))))),(.tmp 28,.rep (.slice Tl) r5.1)]) (ay [.tmp 27,.tmp 28] rfl rfl TN rfl (xX k (r2.1.1,r2.1.2.1,r2.1.2.2.1,r2.1.2.2.2.1,r2.1.2.2.2.2.1,[]) r5.1 r8 Y)) λ_ _ _ hn=>⟨(aD (t:=am) (x:=(r2.1.1,r2.1.2.1,r2.1.2.2.1,r2.1.2.2.2.1,r2.1.2.2.2.2.1,[])) (.agg (.pair .int (.pair .int (.pair .int (.pair .int (.pair .rep .nil)))))) trivial rfl hn.1),hn.2.1,trivial⟩) ?_;refine ga (ig rfl) ?_;refine pf (nl ?_);exact jz ((), !r8) h [1,2,0]
 .
  refine cv h (λh=>?_) (λh=>?_)
  .refine sr (fr 2 ?_);refine lo cV ?_;refine fr 2 ?_;refine aF rfl rfl (aC rfl cV trivial rfl rfl) ⟨rfl,rfl,trivial⟩ ?_;refine cq ?_;refine cq ?_;refine cq (nt (rx ?_));refine bo (dT (a:=.agg (.pair (I r2.1.1) (.pair (I r2.1.2.1) (.pair (I r2.1.2.2.1) (.pair (I r2.1.2.2.2.1) (.pair (.rep (.slice (.slice Tl)) r2.1.2.2.2.2.1) (.eq (.slice none 0 0)))))))) (a':=.rep am (r2.1.1,r2.1.2.1,r2.1.2.2.1,r2.1.2.2.2.1,r2.1.2.2.2.2.1,[])) (fp (.agg (.pair .int (.pair .int (.pair .int (.pair .int (.pair .rep .nil)))))))) ?_;refine bo (eH (t:=Tl) (x:=([]:(List Int))) 3 rfl .nil rfl rfl) ?_;refine bo (eH (t:=(.slice Tl)) (x:=([]:(List (List Int)))) 4 rfl .nil rfl rfl) ?_;refine bo (SE.fin (Γ':=[(2,_),(3,_),(4,_),(5,_)]) [2,0,1] ⟨rfl,rfl,rfl,rfl,trivial⟩ rfl) ?_;cases h;exact aL () [.rep am (r2.1.1,r2.1.2.1,r2.1.2.2.1,r2.1.2.2.2.1,r2.1.2.2.2.2.1,[]),_,_,_] 1 ⟨⟨_,_,_,_,_,rfl,(.tail _ (.head _)),cV,(nK),rfl⟩,rfl,rfl,rfl,trivial⟩ rfl
  .refine sk (aN (Z:=Value) (α:=(List aG)×(List Int)×Int×Int) (λy x9=>[(2,Pt b1),(6,Pt b3),(7,.rep Tl r4.1),(8,.rep (.slice Tl) r5.1)]) (λy x9=>[.obj b1 26 (.agg (.pair (I 0) (.pair (I 0) (.pair (I 0) (.pair (I 0) (.pair (.eq (.slice none 0 0)) (.eq (.slice none 0 0)))))))),.obj b3 26 (.agg (.pair (I r2.1.1) (.pair (I r2.1.2.1) (.pair (I r2.1.2.2.1) (.pair (I r2.1.2.2.2.1) (.pair (.rep (.slice (.slice Tl)) r2.1.2.2.2.2.1) (.eq y))))))),.sl y 47 aH x9.1,.obj c 71 (.agg (.pair (.rep Tl x9.2.1) (.pair (I x9.2.2.1) (.eq (.int .u64 x9.2.2.2)))))]) h (λK h=>?_) (λy x9 h=>?_))
   .refine sr (mq ?_);obtain⟨u,Q,h⟩:=aa h;refine kb (ay [.tmp 33,.const (.int .i64 (4))] rfl rfl tu rfl (bW k (r4.2.1,r4.2.2.1,r4.2.2.2) c 4 u Q)) ?_;refine aq (nt (ak ?_));refine iJ (SE.nil 47 aH) ?_;refine aM (λl e=>[(0,Pt c),(2,Pt b1),(6,Pt b3),(7,.rep Tl r4.1),(8,.rep (.slice Tl) r5.1),(10,I e.2.2.2.2)]) (λl e=>[.obj c 71 (.agg (.pair (.rep Tl e.1) (.pair (I e.2.1) (.eq (.int .u64 e.2.2.1))))),.obj b1 26 (.agg (.pair (I 0) (.pair (I 0) (.pair (I 0) (.pair (I 0) (.pair (.eq (.slice none 0 0)) (.eq (.slice none 0 0)))))))),.obj b3 26 (.agg (.pair (I r2.1.1) (.pair (I r2.1.2.1) (.pair (I r2.1.2.2.1) (.pair (I r2.1.2.2.2.1) (.pair (.rep (.slice (.slice Tl)) r2.1.2.2.2.2.1) (.eq l))))))),.sl l 47 aH e.2.2.2.1]) (iH k r2 r5) k (.slice none 0 0) (u.2.1,u.2.2.1,u.2.2.2,([]:(List aG)),u.1) (λ_=>rfl) h (SE.fin [1,2,3,0] ⟨rfl,rfl,rfl,rfl,rfl,rfl,trivial⟩ rfl) (λn l e h=>?_);unfold iH at h;refine aj (sr (mq ?_));refine jb (lR rfl) ?_;refine nt (ci h (λh=>?_) (λh=>?_))
    .refine sk (aj (ak (sr (mq ?_))));refine fr 2 ?_;refine lo cV ?_;obtain⟨j,O,h⟩:=aa h;refine fr 1 ?_;refine kb (bF (N:=[(.tmp 39,Pt c),(.tmp 40,.agg (.pair (I r2.1.1) (.pair (I r2.1.2.1) (.pair (I r2.1.2.2.1) (.pair (I r2.1.2.2.2.1) (.pair (.rep (.slice (.slice Tl)) r2.1.2.2.2.2.1) (.eq l)))))))]) (ay [.tmp 39,.tmp 40] rfl rfl QP rfl (sf k (e.1,e.2.1,e.2.2.1) c (r2.1.1,r2.1.2.1,r2.1.2.2.1,r2.1.2.2.2.1,r2.1.2.2.2.2.1,()) j O)) λ_ _ _ hn=>⟨hn.1,(LN (t:=(.pair Ti (.pair Ti (.pair Ti (.pair Ti (.pair (.slice (.slice Tl)) .ign)))))) (x:=(r2.1.1,r2.1.2.1,r2.1.2.2.1,r2.1.2.2.2.1,r2.1.2.2.2.2.1,())) (oL (fp .int) (oL (fp .int) (oL (fp .int) (oL (fp .int) (oL (fp .rep) MH))))) hn.2.1),trivial⟩) ?_;refine aQ rfl rfl rfl (aX rfl vB Ce) trivial λUH=>?_;refine aF rfl rfl (aC rfl jE rfl rfl rfl) ⟨rfl,rfl,trivial⟩ ?_;refine nt (aj (cG ?_));refine dm ?_;refine da (ap rfl BO) ?_;refine ea 0 (an rfl cJ jj rfl) ?_;obtain⟨UF,J,h⟩:=aa h;refine db (ba (t:=Tl) rfl qs iN J) ?_;refine da (aA (t:=Tl) rfl iN rfl) ?_;refine da (ap rfl BP) ?_;refine ea 0 (an rfl cJ jj rfl) ?_;obtain⟨D,F,h⟩:=aa h;refine db (ba (t:=Ti) rfl jr cJ F) ?_;refine da (aA (t:=Ti) rfl cJ rfl) ?_;refine da (ap rfl sC) ?_;refine ea 2 (an rfl cJ jj rfl) ?_;refine df dZ ?_;refine jb (kp rfl) ?_;refine fl Ib ?_;refine aF rfl rfl (aC rfl Ue rfl rfl rfl) ⟨rfl,rfl,trivial⟩ ?_;refine nt (ae (fl f8 ?_));refine fr 2 ?_;refine lo m9 ?_;refine fr 1 ?_;refine lo jE ?_;refine ja (bf (t:=aH) [(.tmp 57,_)] [(j.1.1,j.1.2.1,decide (r2.1.2.2.1≤D))] rfl rfl vG (.cons trivial (.agg (.pair .rep (.pair .rep .bool))) .nil) rfl rfl) ?_;obtain⟨UG,M,h⟩:=aa h;refine fr 4 ?_;refine eh rfl rfl rfl (cx rfl rfl vG (ao M)) ⟨rfl,rfl,trivial⟩ λX=>?_;refine fl f8 ?_;refine mh λo20=>?_;refine fr 2 ?_;refine aF rfl rfl (aC rfl m9 o20 rfl rfl) ⟨rfl,rfl,trivial⟩ ?_;refine aI (aS (tn (ae (mq ?_))));obtain⟨U,E,h⟩:=aa h;refine jb (eE rfl E) ?_;refine aq (nl ?_);exact jz (X,(j.2.1,j.2.2.1,j.2.2.2,e.2.2.2.1++[(j.1.1,j.1.2.1,decide (r2.1.2.2.1≤D))],U)) h [3,4,0,1]
    .refine xa ?_;exact jz (l,(e.2.2.2.1,e.1,e.2.1,e.2.2.1)) h [1,2,3,0]
   .refine sr (fr 1 ?_);refine fr 2 ?_;refine eJ (iE (off:=5) [] trivial rfl rfl) ?_;refine lo cV ?_;iterate 2 refine mq ?_
    refine fr 1 ?_;refine aF rfl rfl (aC rfl cV trivial rfl rfl) ⟨rfl,rfl,trivial⟩ ?_;refine aq ?_;refine aq ?_;refine cq (nt (aE ?_));refine bo (dT (a:=.agg (.pair (I r2.1.1) (.pair (I r2.1.2.1) (.pair (I r2.1.2.2.1) (.pair (I r2.1.2.2.2.1) (.pair (.rep (.slice (.slice Tl)) r2.1.2.2.2.2.1) (Rs aH x9.1))))))) (a':=.rep am (r2.1.1,r2.1.2.1,r2.1.2.2.1,r2.1.2.2.2.1,r2.1.2.2.2.2.1,x9.1)) (fp (.agg (.pair .int (.pair .int (.pair .int (.pair .int (.pair .rep .rep)))))))) ?_;refine bo (SE.fin (Γ':=[(2,_),(3,_),(4,_),(5,_)]) [2,0,1] ⟨rfl,rfl,rfl,rfl,trivial⟩ rfl) ?_;cases h;exact aL () [.rep am (r2.1.1,r2.1.2.1,r2.1.2.2.1,r2.1.2.2.2.1,r2.1.2.2.2.2.1,x9.1),_,_,_] 1 ⟨⟨_,_,_,_,_,rfl,(.tail _ (.head _)),cV,(nK),rfl⟩,rfl,rfl,rfl,trivial⟩ rfl
def lr(k:Nat)(a0:ab)(a1:aG):Option ab:=
 (cH (bM (length a0.2.2.2.2.2+length [a1]))).bind λ_=>
 some (a0.1,a0.2.1,a0.2.2.1,a0.2.2.2.1,a0.2.2.2.2.1,a0.2.2.2.2.2++[a1])
theorem vQ(k:Nat)(a0:ab)(a1:aG)(r:ab)(h:lr k a0 a1=some r):
 du Tryz.prog 55 [.rep am a0,.rep aH a1] [] (λ_:Unit=>(bJ [.rep am r],[])):=by
 unfold lr at h
 replace h:=bb h
 refine du.of 19 Tryz.func55 rfl Tryz.ntmps55 rfl λS w0=>?_
 refine sr ?_
 refine bx λb1=>?_
 refine bx λb2=>?_
 refine aQ rfl rfl rfl (aX rfl mV tC) trivial λb3=>?_
 refine nt ?_
 refine aj ?_
 refine cG ?_
 refine da (ap rfl f8) ?_
 refine ea 2 (an rfl m9 jj rfl) ?_
 refine da (ap rfl f8) ?_
 refine ea 2 (an rfl m9 jj rfl) ?_
 refine da (jg rfl rfl D4) ?_
 refine da (ap rfl f8) ?_
 refine ea 2 (an rfl m9 jj rfl) ?_
 refine da (jg rfl rfl D4) ?_
 refine dc (xJ (t:=aH) rfl D4 jE rfl rfl) ?_
 refine ea 1 (an rfl jE (nK) rfl) ?_
 refine da (bf (t:=aH) [(.tmp 14,_)] [a1] rfl rfl vG (.cons rfl .rep .nil) rfl rfl) ?_
 refine df dZ ?_
 obtain⟨u4,c,h⟩:=aa h
 refine aQ rfl rfl rfl (vI rfl rfl vG (ao c) rfl) ⟨rfl,rfl,trivial⟩ λv5=>?_
 refine fl f8 ?_
 refine mh λo6=>?_
 refine fr 3 ?_
 refine aF rfl rfl (aC rfl m9 o6 rfl rfl) ⟨rfl,rfl,trivial⟩ ?_
 refine nt ?_
 refine sr ?_
 refine fr 1 ?_
 refine eJ (iE (off:=5) [16] ⟨rfl,trivial⟩ rfl rfl) ?_
 refine lo cV ?_
 refine fr 1 ?_
 refine aF rfl rfl (aC rfl cV trivial rfl rfl) ⟨rfl,rfl,trivial⟩ ?_
 refine nt ?_
 refine aE ?_
 refine bo (dT (a:=.agg (.pair (.rep Ti a0.1) (.pair (.rep Ti a0.2.1) (.pair (.rep Ti a0.2.2.1) (.pair (.rep Ti a0.2.2.2.1) (.pair (.rep (.slice (.slice Tl)) a0.2.2.2.2.1) (Rs aH (a0.2.2.2.2.2++[a1])))))))) (a':=.rep am (a0.1,a0.2.1,a0.2.2.1,a0.2.2.2.1,a0.2.2.2.2.1,a0.2.2.2.2.2++[a1])) (fp (.agg (.pair .rep (.pair .rep (.pair .rep (.pair .rep (.pair .rep .rep)))))))) ?_
 cases h
 exact aL () [.rep am (a0.1,a0.2.1,a0.2.2.1,a0.2.2.2.1,a0.2.2.2.2.1,a0.2.2.2.2.2++[a1])] 0 ⟨⟨_,_,_,_,_,rfl,(.head _),cV,(nK),rfl⟩,trivial⟩ rfl
def qU(k:Nat)(a0:ab)(a1:aG):Option (ab×Int):=
 (iT k a0 ([]:(List Int)) ([]:(List Int)) ([]:(List Int)) ([]:(List Int))).bind λr4=>
 fK r4.1 (if¬(r4.2.2=0) then(some ((0,0,0,0,[],[]),r4.2.2)) else(none)) (λq5=>if¬(r4.2.2=0) then(some ((0,0,0,0,[],[]),r4.2.2)) else(if(a0.2.2.2.2.2.length:Int)=8 then(some ((0,0,0,0,[],[]),6)) else((eR k a0 a1).bind λr7=>
 if¬(r7=0) then(some ((0,0,0,0,[],[]),r7)) else((lr k a0 a1).bind λr8=>
 (((dj k q5 0).bind λj=>
 if 0 < (j.length:Int) then((f6 k r8).bind λh=>
 fK h (none) (λl=>(dj k l 0).bind λe=>
 some (decide ((e.length:Int)=0)))) else(some false)):Option (Bool)).bind λc=>
 if c=true then(some ((0,0,0,0,[],[]),9)) else(some (r8,0))))))
theorem BD(k:Nat)(a0:ab)(a1:aG)(r:ab×Int)(h:qU k a0 a1=some r):
 bX (dQ Tryz.prog) 20 [.rep am a0,.rep aH a1] [] (λ_:Unit=>(bJ [.rep am r.1,I r.2],[])):=by
 unfold qU at h
 replace h:=bb h
 refine bX.of 49 Tryz.func20 rfl Tryz.ntmps20 rfl λS w0=>?_
 refine sr ?_
 refine bx λb1=>?_
 refine bx λb2=>?_
 refine aQ rfl rfl rfl (aX rfl mV tC) trivial λb3=>?_
 refine cq ?_
 refine nt ?_
 refine sr ?_
 refine fr 2 ?_
 refine lo cV ?_
 obtain⟨r4,X,h⟩:=aa h
 have e:=jI k a0 ([]:(List Int)) ([]:(List Int)) ([]:(List Int)) ([]:(List Int)) r4 X
 rcases hr:r4.1 with _ |q5
 .
  rw [hr] at h e;replace h:=tB h;refine aK (Δ:=[]) (F:=_) (λ_ _ _=>ag rfl _) rfl rfl (bF (N:=[(.tmp 12,.rep am a0),(.const (.slice none 0 0),.eq (.slice none 0 0)),(.const (.slice none 0 0),.eq (.slice none 0 0)),(.const (.slice none 0 0),.eq (.slice none 0 0)),(.const (.slice none 0 0),.eq (.slice none 0 0))]) (aU [.tmp 12,.const (.slice none 0 0),.const (.slice none 0 0),.const (.slice none 0 0),.const (.slice none 0 0)] rfl rfl vW rfl e) λ_ _ _ hn=>⟨hn.1,(aD (t:=Tl) (x:=([]:(List Int))) .nil rfl rfl hn.2.1),(aD (t:=Tl) (x:=([]:(List Int))) .nil rfl rfl hn.2.2.1),(aD (t:=Tl) (x:=([]:(List Int))) .nil rfl rfl hn.2.2.2.1),(aD (t:=Tl) (x:=([]:(List Int))) .nil rfl rfl hn.2.2.2.2.1),trivial⟩) ⟨rfl,rfl,rfl,rfl,rfl,trivial⟩ λ_=>?_;refine mq ?_;refine xr ?_;refine xr ?_;refine xr ?_;refine aq ?_;refine aq ?_;refine aq (nt (aj (sr ?_)));refine mq ?_;refine jb (dW rfl) ?_;refine nt (cn h (λh=>?_) (λh=>?_))
  .refine sr (bZ rfl (cR [] rfl Bi mV u7 (gA trivial) rfl) trivial ?_);refine mq ?_;refine fr 1 ?_;refine aF rfl rfl (aC rfl cV trivial rfl rfl) ⟨rfl,rfl,trivial⟩ ?_;refine aq (nt (rx ?_));refine bo (dT (a:=.agg (.pair (I 0) (.pair (I 0) (.pair (I 0) (.pair (I 0) (.pair (.eq (.slice none 0 0)) (.eq (.slice none 0 0)))))))) (a':=.rep am (0,0,0,0,[],[])) (fp (.agg (.pair .int (.pair .int (.pair .int (.pair .int (.pair .nil .nil)))))))) ?_;cases h;exact aL () [.rep am (0,0,0,0,[],[]),_] 0 ⟨⟨_,_,_,_,_,rfl,(.head _),cV,(nK),rfl⟩,rfl,trivial⟩ rfl
  .cases h
 .
  rw [hr] at h e;replace h:=tA h;refine aK (Δ:=[]) (F:=_) (λ_ _ _=>ag rfl _) rfl rfl (bF (N:=[(.tmp 12,.rep am a0),(.const (.slice none 0 0),.eq (.slice none 0 0)),(.const (.slice none 0 0),.eq (.slice none 0 0)),(.const (.slice none 0 0),.eq (.slice none 0 0)),(.const (.slice none 0 0),.eq (.slice none 0 0))]) (aU [.tmp 12,.const (.slice none 0 0),.const (.slice none 0 0),.const (.slice none 0 0),.const (.slice none 0 0)] rfl rfl vW rfl e) λ_ _ _ hn=>⟨hn.1,(aD (t:=Tl) (x:=([]:(List Int))) .nil rfl rfl hn.2.1),(aD (t:=Tl) (x:=([]:(List Int))) .nil rfl rfl hn.2.2.1),(aD (t:=Tl) (x:=([]:(List Int))) .nil rfl rfl hn.2.2.2.1),(aD (t:=Tl) (x:=([]:(List Int))) .nil rfl rfl hn.2.2.2.2.1),trivial⟩) ⟨rfl,rfl,rfl,rfl,rfl,trivial⟩ λz6=>?_;refine mq ?_;refine xr ?_;refine xr ?_;refine xr ?_;refine aq ?_;refine aq ?_;refine aq (nt (aj (sr ?_)));refine mq ?_;refine jb (dW rfl) ?_;refine nt (cn h (λh=>?_) (λh=>?_))
  .refine sr (bZ rfl (cR [] rfl Bi mV u7 (gA trivial) rfl) trivial ?_);refine mq ?_;refine fr 3 ?_;refine aF rfl rfl (aC rfl cV trivial rfl rfl) ⟨rfl,rfl,trivial⟩ ?_;refine aq (nt (rx ?_));refine bo (dT (a:=.agg (.pair (I 0) (.pair (I 0) (.pair (I 0) (.pair (I 0) (.pair (.eq (.slice none 0 0)) (.eq (.slice none 0 0)))))))) (a':=.rep am (0,0,0,0,[],[])) (fp (.agg (.pair .int (.pair .int (.pair .int (.pair .int (.pair .nil .nil)))))))) ?_;cases h;exact aL () [.rep am (0,0,0,0,[],[]),_] 0 ⟨⟨_,_,_,_,_,rfl,(.head _),cV,(nK),rfl⟩,rfl,trivial⟩ rfl
  .refine sk (aj (sr (fl f8 ?_)));refine fr 2 ?_;refine lo m9 ?_;refine ol D4 ?_;refine jb (hJ rfl) ?_;refine nt (ci h (λh=>?_) (λh=>?_))
   .refine sr (bZ rfl (cR [] rfl Bi mV u7 (gA trivial) rfl) trivial ?_);refine fr 3 ?_;refine aF rfl rfl (aC rfl cV trivial rfl rfl) ⟨rfl,rfl,trivial⟩ ?_;refine cq (nt (rx ?_));refine bo (dT (a:=.agg (.pair (I 0) (.pair (I 0) (.pair (I 0) (.pair (I 0) (.pair (.eq (.slice none 0 0)) (.eq (.slice none 0 0)))))))) (a':=.rep am (0,0,0,0,[],[])) (fp (.agg (.pair .int (.pair .int (.pair .int (.pair .int (.pair .nil .nil)))))))) ?_;cases h;exact aL () [.rep am (0,0,0,0,[],[]),_] 0 ⟨⟨_,_,_,_,_,rfl,(.head _),cV,(nK),rfl⟩,rfl,trivial⟩ rfl
   .refine sk (aj (sr (lo cV ?_)));refine fr 4 ?_;refine lo jE ?_;obtain⟨r7,U,h⟩:=aa h;refine jb (ay [.tmp 26,.tmp 27] rfl rfl QL rfl (lu k a0 a1 r7 U)) ?_;refine aq (nt (sr ?_));refine mq ?_;refine jb (dW rfl) ?_;refine nt (cn h (λh=>?_) (λh=>?_))
    .refine sr (bZ rfl (cR [] rfl Bi mV u7 (gA trivial) rfl) trivial ?_);refine mq ?_;refine fr 4 ?_;refine aF rfl rfl (aC rfl cV trivial rfl rfl) ⟨rfl,rfl,trivial⟩ ?_;refine aq (nt (rx ?_));refine bo (dT (a:=.agg (.pair (I 0) (.pair (I 0) (.pair (I 0) (.pair (I 0) (.pair (.eq (.slice none 0 0)) (.eq (.slice none 0 0)))))))) (a':=.rep am (0,0,0,0,[],[])) (fp (.agg (.pair .int (.pair .int (.pair .int (.pair .int (.pair .nil .nil)))))))) ?_;cases h;exact aL () [.rep am (0,0,0,0,[],[]),_] 0 ⟨⟨_,_,_,_,_,rfl,(.head _),cV,(nK),rfl⟩,rfl,trivial⟩ rfl
    .refine sk (sr (fr 1 ?_));refine lo cV ?_;refine fr 1 ?_;refine lo jE ?_;obtain⟨r8,Q,h⟩:=aa h;refine jb (ay [.tmp 33,.tmp 34] rfl rfl Tt rfl (vQ k a0 a1 r8 Q)) ?_;refine aQ rfl rfl rfl (aX rfl mV tC) trivial λb9=>?_;refine aF rfl rfl (aC rfl cV rfl rfl rfl) ⟨rfl,rfl,trivial⟩ ?_;refine nt (aj (aN (Z:=Unit) (α:=Bool) (λn j=>[(4,Pt b3),(10,Pt b9),(46,.eq (.bool j))]) (λn j=>[.obj b3 26 (.agg (.pair (I 0) (.pair (I 0) (.pair (I 0) (.pair (I 0) (.pair (.eq (.slice none 0 0)) (.eq (.slice none 0 0)))))))),.obj b9 26 (.rep am r8),.inv z6.2 (cf k q5)]) h (λK h=>?_) (λn j h=>?_)))
     .refine ae (mq ?_);obtain⟨M,J,h⟩:=aa h;refine fr 4 ?_;refine fr 4 ?_;refine aK (Δ:=[_,_]) (F:=_) (λ_ _ _=>ag rfl _) rfl rfl (aU [.tmp 36,.const (.int .u8 (0))] rfl rfl Lm rfl (fu k q5 z6.1 z6.2 0 M J)) ⟨rfl,rfl,trivial⟩ λ_=>?_;refine ol yI ?_;refine jb (lR rfl) ?_;refine mq ?_;refine bN (s:=40) rfl (λhb=>?_) (λhb=>?_)
      .replace h:=eu (tw hb) h;refine fr 2 ?_;refine eO rfl rfl rfl rfl rfl rfl (an rfl cV (nK) rfl) ⟨rfl,trivial⟩ ?_;obtain⟨y,E,h⟩:=aa h;have c:=kh k r8 y E;rcases hr:y with _ |O
       .rw [hr] at h c;replace h:=tB h;refine aK (Δ:=[]) (F:=_) (λ_ _ h=>(kN rfl rfl rfl rfl h).trans rfl) rfl rfl (ay [.tmp 41] rfl rfl EP rfl c) ⟨rfl,trivial⟩ λ_=>?_;cases h
       .rw [hr] at h c;replace h:=tA h;refine aK (Δ:=[]) (F:=_) (λ_ _ h=>(kN rfl rfl rfl rfl h).trans rfl) rfl rfl (ay [.tmp 41] rfl rfl EP rfl c) ⟨rfl,trivial⟩ λl=>?_;obtain⟨u,D,h⟩:=aa h;refine fr 1 ?_;refine fr 1 ?_;refine aK (Δ:=[_,_]) (F:=_) (λ_ _ h=>(kN rfl rfl rfl rfl h).trans rfl) rfl rfl (aU [.tmp 42,.const (.int .u8 (0))] rfl rfl Lm rfl (fu k O l.1 l.2 0 u D)) ⟨rfl,rfl,trivial⟩ λ_=>?_;refine ga (jg rfl rfl yI) ?_;refine gb (hJ rfl) ?_;refine pt (nl ?_);exact jz ((),decide ((u.length:Int)=0)) h [7,2,4]
      .replace h:=cK (tz hb) h;iterate 5 refine gn ?_
       refine pf (nl ?_);exact jz ((),false) h [5,2,1]
     .refine cv h (λh=>?_) (λh=>?_)
      .refine sr (bZ rfl (cR [] rfl Bi mV u7 (gA trivial) rfl) trivial ?_);refine aF rfl rfl (aC rfl cV trivial rfl rfl) ⟨rfl,rfl,trivial⟩ ?_;refine cq (nt (rx ?_));refine bo (dT (a:=.agg (.pair (I 0) (.pair (I 0) (.pair (I 0) (.pair (I 0) (.pair (.eq (.slice none 0 0)) (.eq (.slice none 0 0)))))))) (a':=.rep am (0,0,0,0,[],[])) (fp (.agg (.pair .int (.pair .int (.pair .int (.pair .int (.pair .nil .nil)))))))) ?_;cases h;exact aL () [.rep am (0,0,0,0,[],[]),_] 0 ⟨⟨_,_,_,_,_,rfl,(.head _),cV,(nK),rfl⟩,rfl,trivial⟩ rfl
      .refine sk (sr (fr 1 ?_));refine lo cV ?_;refine fr 1 ?_;refine aF rfl rfl (aC rfl cV rfl rfl rfl) ⟨rfl,rfl,trivial⟩ ?_;refine cq (nt (aE ?_));cases h;exact aL () [.rep am r8,_] 0 ⟨⟨_,_,_,_,_,rfl,(.head _),cV,(nK),rfl⟩,rfl,trivial⟩ rfl
def dD(k:Nat)(h:(List (List Int))×Int)(e:(List (List Int))×Int):Nat->Int->Option (Except Bool Unit)
 |0,_=>none
 |n+1,c=>
  if c < (e.1.length:Int) then((aV e.1 c).bind λl=>
  (mL k h.1 l).bind λr=>
  if¬(r=true) then(some (.error false)) else((ck (c+1)).bind λj=>
  dD k h e n j)) else(some (.ok ()))
def kD(k:Nat)(a0:(List Int)):Option Bool:=
 (lW k a0).bind λr1=>
 (mK k (r1.1,r1.2.1,r1.2.2)).bind λr3=>
 if¬(r3.2.2.2.1=true) then(some false) else((kE k (r3.2.2.2.2.1,r3.2.2.2.2.2.1,r3.2.2.2.2.2.2) r3.1).bind λr5=>
 (im k r3.1).bind λr7=>
 (cH (bM (length r7.2.2.2.2.2+length [r5.1]))).bind λ_=>
 (qU k r3.1 r5.1).bind λe=>
 (gP k r3.1).bind λh=>
 (gP k (r7.1,r7.2.1,r7.2.2.1,r7.2.2.2.1,r7.2.2.2.2.1,r7.2.2.2.2.2++[r5.1])).bind λc=>
 ((if¬(h.2=0) then(some true) else(if¬(c.2=0) then(some true) else(if(h.1.length:Int) < (c.1.length:Int) then(some true) else(some (decide (32 < (c.1.length:Int))))))):Option (Bool)).bind λn=>
 if n=true then(some false) else(bE (α:=Unit) (dD k h c k 0) (some) λ_=>
 if(c.1.length:Int)=0 then(((if e.2=9 then(if e.1.1=0 then((oq k).bind λu=>
 some u) else(some false)) else(some false)):Option (Bool)).bind λl=>
 some l) else(((if e.2=0 then((ij k e.1 (r7.1,r7.2.1,r7.2.2.1,r7.2.2.2.1,r7.2.2.2.2.1,r7.2.2.2.2.2++[r5.1])).bind λs=>
 if s=true then((oq k).bind λr=>
 some r) else(some false)) else(some false)):Option (Bool)).bind λj=>
 some j)))
theorem tl(k:Nat)(a0:(List Int))(r:Bool)(h:kD k a0=some r):
 bX (dQ Tryz.prog) 4 [.rep Tl a0] [] (λ_:Unit=>(bJ [.eq (.bool r)],[])):=by
 unfold kD at h
 replace h:=bb h
 refine bX.of 109 Tryz.func4 rfl Tryz.ntmps4 rfl λS w0=>?_
 refine sr ?_
 refine cq ?_
 refine nt ?_
 refine sr ?_
 refine mq ?_
 obtain⟨r1,UR,h⟩:=aa h
 have UT:=uK k a0 r1 UR
 refine aQ rfl rfl rfl (ay [.tmp 17] rfl rfl TO rfl UT) ⟨rfl,trivial⟩ λb2=>?_
 refine aq ?_
 refine nt ?_
 refine sr ?_
 refine mq ?_
 obtain⟨r3,UQ,h⟩:=aa h
 have US:=zL k (r1.1,r1.2.1,r1.2.2) b2 r3 UQ
 refine ka (aU [.tmp 20] rfl rfl TL rfl US) ?_
 refine mq ?_
 refine xr ?_
 refine xr ?_
 refine xr ?_
 refine xr ?_
 refine aQ rfl rfl rfl (aX rfl mV tC) trivial λb4=>?_
 refine aF rfl rfl (aC rfl cV rfl rfl rfl) ⟨rfl,rfl,trivial⟩ ?_
 refine aq ?_
 refine aq ?_
 refine aq ?_
 refine nt ?_
 refine aj ?_
 refine sr ?_
 refine mq ?_
 refine ja (ig rfl) ?_
 refine nt ?_
 refine cw h (λh=>?_) (λh=>?_)
 .
  refine sr (cq (nt (rx ?_)));cases h;exact ra
 .
  refine sk (sr (mq ?_));refine lo cV ?_;obtain⟨r5,UP,h⟩:=aa h;refine fr 1 ?_;refine kb (ay [.tmp 28,.tmp 29] rfl rfl QP rfl (tp k (r3.2.2.2.2.1,r3.2.2.2.2.2.1,r3.2.2.2.2.2.2) b2 r3.1 r5 UP)) ?_;refine aQ rfl rfl rfl (aX rfl vB Ce) trivial λb6=>?_;refine aF rfl rfl (aC rfl jE rfl rfl rfl) ⟨rfl,rfl,trivial⟩ ?_;refine nt (sr (fr 2 ?_));refine lo cV ?_;obtain⟨r7,UO,h⟩:=aa h;refine aQ rfl rfl rfl (ay [.tmp 31] rfl rfl TK rfl (sj k r3.1 r7 UO)) ⟨rfl,trivial⟩ λv8=>?_;refine aQ rfl rfl rfl (aX rfl mV tC) trivial λb9=>?_;refine aF rfl rfl (aC rfl cV trivial rfl rfl) ⟨rfl,rfl,trivial⟩ ?_;refine nt (sr (fl f8 ?_));refine lo m9 ?_;refine fr 3 ?_;refine lo jE ?_;refine ja (bf (t:=aH) [(.tmp 35,_)] [r5.1] rfl rfl vG (.cons rfl .rep .nil) rfl rfl) ?_;obtain⟨UV,qt,h⟩:=aa h;refine fr 2 ?_;refine eh rfl rfl rfl (cx rfl rfl vG (ao qt)) ⟨rfl,rfl,trivial⟩ λUU=>?_;refine fl f8 ?_;refine mh λo12=>?_;refine fr 2 ?_;refine aF rfl rfl (aC rfl m9 o12 rfl rfl) ⟨rfl,rfl,trivial⟩ ?_;refine nt (sr (fr 3 ?_));refine lo cV ?_;refine fr 3 ?_;refine lo jE ?_;obtain⟨c,UJ,h⟩:=aa h;refine jb (aU [.tmp 40,.tmp 41] rfl rfl TJ rfl (BD k r3.1 r5.1 c UJ)) ?_;refine mq ?_;refine xr ?_;refine xr ?_;refine aQ rfl rfl rfl (aX rfl mV tC) trivial λl=>?_;refine aF rfl rfl (aC rfl cV rfl rfl rfl) ⟨rfl,rfl,trivial⟩ ?_;refine aq (nt (sr ?_));refine fr 2 ?_;refine lo cV ?_;obtain⟨u,UI,h⟩:=aa h;refine ja (aU [.tmp 46] rfl rfl OL rfl (l9 k r3.1 u UI)) ?_;refine mq ?_;refine xr ?_;refine xr ?_;refine aq ?_;refine aq (nt (sr ?_));refine fr 3 ?_;refine fr 4 ?_;refine eJ (iE (off:=5) [37] ⟨rfl,trivial⟩ rfl rfl) ?_;refine lo cV ?_;obtain⟨j,UH,h⟩:=aa h;refine ja (bF (N:=[(.tmp 51,.agg (.pair (I r7.1) (.pair (I r7.2.1) (.pair (I r7.2.2.1) (.pair (I r7.2.2.2.1) (.pair (.rep (.slice (.slice Tl)) r7.2.2.2.2.1) (Rs aH (r7.2.2.2.2.2++[r5.1]))))))))]) (aU [.tmp 51] rfl rfl OL rfl (l9 k (r7.1,r7.2.1,r7.2.2.1,r7.2.2.2.1,r7.2.2.2.2.1,r7.2.2.2.2.2++[r5.1]) j UH)) λ_ _ _ hn=>⟨(aD (t:=am) (x:=(r7.1,r7.2.1,r7.2.2.1,r7.2.2.2.1,r7.2.2.2.2.1,r7.2.2.2.2.2++[r5.1])) (.agg (.pair .int (.pair .int (.pair .int (.pair .int (.pair .rep .rep)))))) trivial rfl hn.1),trivial⟩) ?_;refine mq ?_;refine xr ?_;refine xr ?_;refine aq ?_;refine aq (nt (aj ?_));refine aN (Z:=Unit) (α:=Bool) (λU F=>[(9,Pt b9),(10,Pt l),(11,I c.2),(12,.rep (.slice Tl) u.1),(14,.rep (.slice Tl) j.1),(72,.eq (.bool F))]) (λU F=>[.obj b9 26 (.agg (.pair (I r7.1) (.pair (I r7.2.1) (.pair (I r7.2.2.1) (.pair (I r7.2.2.2.1) (.pair (.rep (.slice (.slice Tl)) r7.2.2.2.2.1) (Rs aH (r7.2.2.2.2.2++[r5.1])))))))),.obj l 26 (.rep am c.1)]) h (λK h=>?_) (λU F h=>?_)
  .refine ae (mq ?_);refine jb (dW rfl) ?_;refine mq ?_;refine bN (s:=57) rfl (λhb=>?_) (λhb=>?_)
   .replace h:=eu (KE hb) h;iterate 2 refine gn ?_
    refine pt ?_;refine mq ?_;iterate 5 refine gn ?_
    refine pt ?_;refine mq ?_;iterate 3 refine gn ?_
    refine pt (nl ?_);exact jz ((),true) h [0,2]
   .replace h:=cK (xP hb) h;refine gm ?_;refine gb (dW rfl) ?_;refine pf ?_;refine mq ?_;refine bN (s:=61) rfl (λhb=>?_) (λhb=>?_)
    .replace h:=eu (KE hb) h;iterate 5 refine gn ?_
     refine pt ?_;refine mq ?_;iterate 3 refine gn ?_
     refine pt (nl ?_);exact jz ((),true) h [0,2]
    .replace h:=cK (xP hb) h;refine gm ?_;refine ga (jg rfl rfl qs) ?_;refine gm ?_;refine ga (jg rfl rfl qs) ?_;refine gb (lR rfl) ?_;refine pf ?_;refine mq ?_;refine bN (s:=68) rfl (λhb=>?_) (λhb=>?_)
     .replace h:=eu (tw hb) h;iterate 3 refine gn ?_
      refine pt (nl ?_);exact jz ((),true) h [0,2]
     .replace h:=cK (tz hb) h;refine gm ?_;refine ga (jg rfl rfl qs) ?_;refine gb (lR rfl) ?_;refine pf (nl ?_);exact jz ((),decide (32 < (j.1.length:Int))) h [0,2]
  .refine cv h (λh=>?_) (λh=>?_)
   .refine sr (cq (nt (rx ?_)));cases h;exact ra
   .refine sk (dG (Z:=Unit) (α:=Unit) (λQ X=>[(9,Pt b9),(10,Pt l),(11,I c.2),(14,.rep (.slice Tl) j.1)]) (λQ X=>[.obj b9 26 (.agg (.pair (I r7.1) (.pair (I r7.2.1) (.pair (I r7.2.2.1) (.pair (I r7.2.2.2.1) (.pair (.rep (.slice (.slice Tl)) r7.2.2.2.2.1) (Rs aH (r7.2.2.2.2.2++[r5.1])))))))),.obj l 26 (.rep am c.1)]) (λe=>e=r) h (λe h=>Option.some.inj h) (λK hR h=>?_) (λQ X h=>?_))
    .refine sr (cq (nt (ak ?_)));refine aM (λO y=>[(9,Pt b9),(10,Pt l),(11,I c.2),(12,.rep (.slice Tl) u.1),(14,.rep (.slice Tl) j.1),(16,I y)]) (λO y=>[.obj b9 26 (.agg (.pair (I r7.1) (.pair (I r7.2.1) (.pair (I r7.2.2.1) (.pair (I r7.2.2.2.1) (.pair (.rep (.slice (.slice Tl)) r7.2.2.2.2.1) (Rs aH (r7.2.2.2.2.2++[r5.1])))))))),.obj l 26 (.rep am c.1)]) (dD k u j) k () 0 (λ_=>rfl) h (SE.fin [0,1] ⟨rfl,rfl,rfl,rfl,rfl,rfl,trivial⟩ rfl) (λn O y h=>?_);unfold dD at h;refine aj (sr ?_);iterate 2 refine mq ?_
     refine ol qs ?_;refine jb (bO rfl) ?_;refine nt (ci h (λh=>?_) (λh=>?_))
     .refine sk (aj (ak (sr ?_)));iterate 3 refine mq ?_
      obtain⟨UL,mw,h⟩:=aa h;refine jb (ba (t:=Tl) rfl qs iN mw) ?_;refine ja (aA (t:=Tl) rfl iN rfl) ?_;obtain⟨UN,UG,h⟩:=aa h;refine jb (ay [.tmp 79,.tmp 83] rfl rfl TG rfl (xY k u.1 UL UN UG)) ?_;refine ja (ig rfl) ?_;refine nt (cw h (λh=>?_) (λh=>?_))
      .refine sr (cq (nt (aE (br (bL (bz ?_))))));obtain rfl:=hR _ h;exact ra
      .refine bi (aS (tn (ae (mq ?_))));obtain⟨UK,mc,h⟩:=aa h;refine jb (bH rfl mc) ?_;refine aq (nl ?_);exact jz ((),UK) h [0,1]
     .refine xa ?_;exact jz ((),()) h [0,1]
    .refine aj (sr (mq ?_));refine ol qs ?_;refine jb (hJ rfl) ?_;refine nt (ci h (λh=>?_) (λh=>?_))
     .refine aN (Z:=Unit) (α:=Bool) (λM E=>[(2,.eq (.bool E))]) (λM E=>[]) h (λK h=>?_) (λM E h=>?_)
      .refine ae (mq ?_);refine jb (hJ rfl) ?_;refine mq ?_;refine bN (s:=91) rfl (λhb=>?_) (λhb=>?_)
       .replace h:=eu (tw hb) h;refine ga (ap rfl fG) ?_;refine fr 1 ?_;refine eO rfl rfl rfl rfl rfl rfl (an rfl cJ jj rfl) ⟨rfl,trivial⟩ ?_;refine gb (hJ rfl) ?_;refine pt ?_;refine mq ?_;refine bN (s:=96) rfl (λhb=>?_) (λhb=>?_)
        .replace h:=eu (tw hb) h;obtain⟨gw,UF,h⟩:=aa h;refine km rfl rfl rfl rfl rfl rfl (aU [] rfl rfl QT rfl (s5 k gw UF)) trivial ?_;refine pt ?_;refine aq (nl ?_);exact jz ((),gw) h []
        .replace h:=cK (tz hb) h;refine gn ?_;refine pf ?_;refine aq (nl ?_);exact jz ((),false) h []
       .replace h:=cK (tz hb) h;iterate 3 refine gn ?_
        refine pf ?_;refine mq ?_;refine gn ?_;refine pf ?_;refine aq (nl ?_);exact jz ((),false) h []
      .refine rx ?_;cases h;exact ra
     .refine sk (aN (Z:=Unit) (α:=Bool) (λJ D=>[(2,.eq (.bool D))]) (λJ D=>[]) h (λK h=>?_) (λJ D h=>?_))
      .refine ae (mq ?_);refine jb (hJ rfl) ?_;refine mq ?_;refine bN (s:=101) rfl (λhb=>?_) (λhb=>?_)
       .replace h:=eu (tw hb) h;refine fr 1 ?_;refine eO rfl rfl rfl rfl rfl rfl (an rfl cV (nK) rfl) ⟨rfl,trivial⟩ ?_;refine fr 1 ?_;refine eO rfl rfl rfl rfl rfl rfl (an rfl cV (nK) rfl) ⟨rfl,trivial⟩ ?_;obtain⟨UM,UE,h⟩:=aa h;refine gb (bF (N:=[(.tmp 102,.rep am c.1),(.tmp 103,.agg (.pair (I r7.1) (.pair (I r7.2.1) (.pair (I r7.2.2.1) (.pair (I r7.2.2.2.1) (.pair (.rep (.slice (.slice Tl)) r7.2.2.2.2.1) (Rs aH (r7.2.2.2.2.2++[r5.1]))))))))]) (ay [.tmp 102,.tmp 103] rfl rfl TF rfl (sc k c.1 (r7.1,r7.2.1,r7.2.2.1,r7.2.2.2.1,r7.2.2.2.2.1,r7.2.2.2.2.2++[r5.1]) UM UE)) λ_ _ _ hn=>⟨hn.1,(aD (t:=am) (x:=(r7.1,r7.2.1,r7.2.2.1,r7.2.2.2.1,r7.2.2.2.2.1,r7.2.2.2.2.2++[r5.1])) (.agg (.pair .int (.pair .int (.pair .int (.pair .int (.pair .rep .rep)))))) trivial rfl hn.2.1),trivial⟩) ?_;refine pt ?_;refine mq ?_;refine bN (s:=106) rfl (λhb=>?_) (λhb=>?_)
        .replace h:=eu (MQ hb) h;obtain⟨Y,zz,h⟩:=aa h;refine km rfl rfl rfl rfl rfl rfl (aU [] rfl rfl QT rfl (s5 k Y zz)) trivial ?_;refine pt ?_;refine aq (nl ?_);exact jz ((),Y) h []
        .replace h:=cK (MS hb) h;refine gn ?_;refine pf ?_;refine aq (nl ?_);exact jz ((),false) h []
       .replace h:=cK (tz hb) h;iterate 3 refine gn ?_
        refine pf ?_;refine mq ?_;refine gn ?_;refine pf ?_;refine aq (nl ?_);exact jz ((),false) h []
      .refine aE ?_;cases h;exact ra
