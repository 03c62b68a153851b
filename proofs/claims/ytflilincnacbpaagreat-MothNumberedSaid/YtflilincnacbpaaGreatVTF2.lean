import Derived.Test.YtflilincnacbpaaGreatVTB10
open Nat
open List hiding mem_of_getElem?
open Array hiding mem_of_getElem? mk
set_option linter.unusedSimpArgs false
set_option linter.unusedVariables false
set_option maxRecDepth 4000
set_option maxHeartbeats 1000000
namespace Go.Proofs.YtflilincnacbpaaGreat
open K Go Go.Proofs
def fD(k:Nat)(r4:(List Int)×ba):Nat->((List Int)×Int×Int×Int×(List (List Int)))->Option ((List Int)×Int×Int×(List (List Int)))
 |0,_=>none
 |n+1,y7=>
  if y7.2.2.2.1 < (r4.1.length:Int) then((((eD k (y7.1,y7.2.1,y7.2.2.1) 5).bind λc=>
  if c.1=true then(some (c.2.1,c.2.2.1,c.2.2.2,y7.2.2.2.2)) else((ck ((y7.2.2.2.2.length:Int) - 1)).bind λr=>
  (cE k (c.2.1,c.2.2.1,c.2.2.2) r).bind λe=>
  (aG y7.2.2.2.2 e.1).bind λj=>
  (aG r4.1 y7.2.2.2.1).bind λh=>
  (cM (bN (length j+length [h]))).bind λ_=>
  some (e.2.1,e.2.2.1,e.2.2.2,List.set y7.2.2.2.2 (Int.toNat e.1) (j++[h])))):Option ((List Int)×Int×Int×(List (List Int)))).bind λx9=>
  (ck (y7.2.2.2.1+1)).bind λl=>
  fD k r4 n (x9.1,x9.2.1,x9.2.2.1,l,x9.2.2.2)) else(some (y7.1,y7.2.1,y7.2.2.1,y7.2.2.2.2))
def jT(k:Nat)(a0:ba)(a1:Int):Option ((List (List Int))×ba):=
 (fQ k (a0.1,a0.2.1,a0.2.2) 1 3).bind λr1=>
 (cM (0≤r1.1/\bN (Int.toNat r1.1))).bind λ_=>
 (eK k (r1.2.1,r1.2.2.1,r1.2.2.2) a1).bind λr4=>
 ((fD k r4 k (r4.2.1,r4.2.2.1,r4.2.2.2,0,List.replicate (Int.toNat r1.1) ([]:(List Int)))):Option ((List Int)×Int×Int×(List (List Int)))).bind λx5=>
 some (x5.2.2.2,(x5.1,x5.2.1,x5.2.2.1))
theorem vb(k:Nat)(a0:ba)(c:Nat)(a1:Int)(r:(List (List Int))×ba)(h:jT k a0 a1=some r):
 dG Tryz.prog 33 [Pt c,I a1] [.obj c 46 (.agg (.pair (.rep Tl a0.1) (.pair (I a0.2.1) (.eq (.int .u64 a0.2.2)))))] (λ_:Unit=>(bO [.rep (.slice Tl) r.1],[.obj c 46 (.agg (.pair (.rep Tl r.2.1) (.pair (I r.2.2.1) (.eq (.int .u64 r.2.2.2)))))])):=by
 unfold jT at h
 replace h:=bp h
 refine dG.of 42 Tryz.func33 rfl Tryz.ntmps33 rfl λS w0=>?_
 refine sr ?_
 refine cq ?_
 refine nt ?_
 refine sr ?_
 refine mq ?_
 obtain⟨r1,VL,h⟩:=aa h
 have VN:=jg k (a0.1,a0.2.1,a0.2.2) c 1 3 r1 VL
 refine kc (aC [.tmp 9,.const (.int .i64 (1)),.const (.int .i64 (3))] rfl rfl MD rfl VN) ?_
 obtain⟨u2,U,h⟩:=aa h
 refine aX rfl rfl rfl (Pi (t:=.val) (d:=.slice none 0 0) rfl nX QK (au U).1 (au U).2) ⟨rfl,rfl,trivial⟩ λv3=>?_
 refine dM (A3 (F:=[.obj c 46 (.agg (.pair (.rep Tl r1.2.1) (.pair (I r1.2.2.1) (.eq (.int .u64 r1.2.2.2)))))])) ?_
 refine aq ?_
 refine nt ?_
 refine sr ?_
 iterate 2 refine mq ?_
 obtain⟨r4,VK,h⟩:=aa h
 have VM:=ma k (r1.2.1,r1.2.2.1,r1.2.2.2) c a1 r4 VK
 refine kb (aC [.tmp 12,.tmp 13] rfl rfl Vg rfl VM) ?_
 refine aq ?_
 refine nt ?_
 refine aJ (Z:=(Value×(Nat->Value))) (α:=(List Int)×Int×Int×(List (List Int))) (λz6 x5=>[(5,.eq z6.1)]) (λz6 x5=>[.obj c 46 (.agg (.pair (.rep Tl x5.1) (.pair (I x5.2.1) (.eq (.int .u64 x5.2.2.1)))))]++j9 22 z6 x5.2.2.2) h (λK h=>?_) (λz6 x5 h=>?_)
 .
  refine sr (cq (nt (ak ?_)));refine aH (Z:=(Value×(Nat->Value))) (α:=(List Int)×Int×Int×Int×(List (List Int))) (λz8 y7=>[(0,Pt c),(5,.eq z8.1),(6,.rep Tl r4.1),(7,I y7.2.2.2.1)]) (λz8 y7=>[.obj c 46 (.agg (.pair (.rep Tl y7.1) (.pair (I y7.2.1) (.eq (.int .u64 y7.2.2.1)))))]++j9 22 z8 y7.2.2.2.2) (fD k r4) k (v3,λ_=>.slice none 0 0) (r4.2.1,r4.2.2.1,r4.2.2.2,0,List.replicate (Int.toNat r1.1) ([]:(List Int))) (λ_=>rfl) h (dL [.obj c 46 (.agg (.pair (.rep Tl r4.2.1) (.pair (I r4.2.2.1) (.eq (.int .u64 r4.2.2.2)))))] (j9 22 (v3,λ_=>.slice none 0 0) (List.replicate (Int.toNat r1.1) ([]:(List Int)))) [0] ⟨rfl,rfl,rfl,rfl,trivial⟩ rfl) (λn z8 y7 h=>?_);unfold fD at h;refine am (sr ?_);iterate 2 refine mq ?_
  refine ol ix ?_;refine jb (bG rfl) ?_;refine nt (ci h (λh=>?_) (λh=>?_))
  .refine sk (aJ (Z:=(Value×(Nat->Value))) (α:=(List Int)×Int×Int×(List (List Int))) (λy x9=>[(0,Pt c),(5,.eq y.1),(6,.rep Tl r4.1),(7,I y7.2.2.2.1)]) (λy x9=>[.obj c 46 (.agg (.pair (.rep Tl x9.1) (.pair (I x9.2.1) (.eq (.int .u64 x9.2.2.1)))))]++j9 22 y x9.2.2.2) h (λK h=>?_) (λy x9 h=>?_))
   .refine ak (am (sr (mq ?_)));obtain⟨j,gw,h⟩:=aa h;refine kb (aC [.tmp 21,.const (.int .i64 (5))] rfl rfl MF rfl (ia k (y7.1,y7.2.1,y7.2.2.1) c 5 j gw)) ?_;refine nt (cv h (λh=>?_) (λh=>?_))
    .refine eO (bi (cT (ao ?_)));exact mJ (z8,(j.2.1,j.2.2.1,j.2.2.2,y7.2.2.2.2)) h (dL [.obj c 46 (.agg (.pair (.rep Tl j.2.1) (.pair (I j.2.2.1) (.eq (.int .u64 j.2.2.2)))))] (j9 22 z8 y7.2.2.2.2) [0] ⟨rfl,rfl,rfl,rfl,trivial⟩ rfl)
    .refine sk (sr ?_);iterate 2 refine mq ?_
     refine JQ (pre:=[.obj c 46 (.agg (.pair (.rep Tl j.2.1) (.pair (I j.2.2.1) (.eq (.int .u64 j.2.2.2)))))]) rfl rfl rfl rfl rfl qP ⟨rfl,trivial⟩ ?_;obtain⟨mt,Q,h⟩:=aa h;refine jb (eA rfl Q) ?_;obtain⟨e,Y,h⟩:=aa h;refine kb (aC [.tmp 23,.tmp 26] rfl rfl wq rfl (cO k (j.2.1,j.2.2.1,j.2.2.2) c mt e Y)) ?_;refine aq (nt ?_);obtain⟨x,s,h⟩:=aa h;refine fL (Gk (pre:=[.obj c 46 (.agg (.pair (.rep Tl e.2.1) (.pair (I e.2.2.1) (.eq (.int .u64 e.2.2.2)))))]) (mf s).2) ?_;obtain⟨u,O,h⟩:=aa h;obtain⟨u16,X,h⟩:=aa h;refine Bd (Δ:=[.sl (z8.2 (Int.toNat e.1)) 3 Ti x,.sl z8.1 22 .val (jl z8.2 0 y7.2.2.2.2),.obj c 46 (.agg (.pair (.rep Tl e.2.1) (.pair (I e.2.2.1) (.eq (.int .u64 e.2.2.2)))))]) (F:=(kg z8.2 0 y7.2.2.2.2).eraseIdx (Int.toNat e.1)) (Z:=Value) (λi=>[(0,Pt c),(5,.eq z8.1),(6,.rep Tl r4.1),(7,I y7.2.2.2.1)]) (λi=>[.sl z8.1 22 .val (List.set (jl z8.2 0 y7.2.2.2.2) (Int.toNat e.1) i),.sl i 3 Ti (x++[u]),.obj c 46 (.agg (.pair (.rep Tl e.2.1) (.pair (I e.2.2.1) (.eq (.int .u64 e.2.2.2)))))]) (λS w=>?_) (λl=>?_)
     .refine sa ?_;refine bY rfl rfl rfl (bL rfl) ⟨rfl,trivial⟩ ?_;refine bY rfl rfl rfl (bL rfl) ⟨rfl,trivial⟩ ?_;refine bY rfl rfl rfl (bL rfl) ⟨rfl,trivial⟩ ?_;refine bY rfl rfl rfl (bL rfl) ⟨rfl,trivial⟩ ?_;refine il 1 rfl rfl rfl rfl (bJ (t:=.val) rfl qP ii (pe s)) ⟨rfl,rfl,trivial⟩ ?_;refine il 1 rfl rfl rfl rfl (eR (i:=Int.toNat e.1) (off:=0) rfl ii (λ_=>rfl) rfl (cP (pe s)).2.2 rfl) ⟨rfl,trivial⟩ ?_;refine bY rfl rfl rfl (bL rfl) ⟨rfl,trivial⟩ ?_;refine bY rfl rfl rfl (bL rfl) ⟨rfl,trivial⟩ ?_;refine bY rfl rfl rfl (aU (t:=Ti) rfl ix cL O) ⟨rfl,rfl,trivial⟩ ?_;refine bY rfl rfl rfl (ay (t:=Ti) rfl cL rfl) ⟨rfl,trivial⟩ ?_;refine bY rfl rfl rfl (bf (t:=Ti) [(.tmp 37,_)] [u] rfl rfl dX (.cons rfl .int .nil) rfl rfl) ⟨rfl,trivial⟩ ?_;refine J3 0 rfl (λv=>[.sl v 3 Ti (x++[u])]) (λ_=>rfl) rfl rfl rfl (cu rfl rfl dX (au X)) ⟨rfl,rfl,trivial⟩ ?_;refine vE 12 [true,true,true,true,true,true,true,true,true,true,true,true] [40] [] [] rfl (by kernel_rfl) (by kernel_rfl) (by kernel_rfl) d4 (λvs hv hB=>?_);obtain⟨w0,V3,rfl,VJ⟩:=aE hv;obtain⟨w1,V2,rfl,VI⟩:=aE VJ;obtain⟨w2,V0,rfl,VH⟩:=aE VI;obtain⟨w3,VZ,rfl,VG⟩:=aE VH;obtain⟨w4,VY,rfl,VF⟩:=aE VG;obtain⟨w5,VX,rfl,VE⟩:=aE VF;obtain⟨w6,VV,rfl,zz⟩:=aE VE;obtain⟨w7,VU,rfl,qt⟩:=aE zz;obtain⟨w8,VT,rfl,mw⟩:=aE qt;obtain⟨w9,VQ,rfl,J⟩:=aE mw;obtain⟨VS,VP,rfl,E⟩:=aE J;obtain⟨l,VO,rfl,D⟩:=aE E;obtain rfl:=rI D;refine⟨[0,1,2],[.sl z8.1 22 .val (jl z8.2 0 y7.2.2.2.2),.obj c 46 (.agg (.pair (.rep Tl e.2.1) (.pair (I e.2.2.1) (.eq (.int .u64 e.2.2.2))))),.sl l 3 Ti (x++[u])],by kernel_rfl,by decide,?_⟩;refine vC rfl rfl rfl rfl (bJ (t:=.val) rfl qP ii (pe s)) ⟨rfl,rfl,trivial⟩ (by kernel_rfl) ?_;refine rX 2 rfl ?_;refine Qo λo18=>?_;refine rX 1 rfl ?_;refine tH rfl rfl (fO (i:=Int.toNat e.1) rfl ii rfl (mg (pe s)) rfl (.val o18) o18) ⟨rfl,rfl,trivial⟩ (by kernel_rfl) ?_;refine yR ?_;refine bK (SE.fin (Γ':=[(0,Pt c),(5,.eq z8.1),(6,.rep Tl r4.1),(7,I y7.2.2.2.1)]) (Δ':=[.sl z8.1 22 .val (List.set (jl z8.2 0 y7.2.2.2.2) (Int.toNat e.1) l),.sl l 3 Ti (x++[u]),.obj c 46 (.agg (.pair (.rep Tl e.2.1) (.pair (I e.2.2.1) (.eq (.int .u64 e.2.2.2)))))]) [0,1,2] ⟨rfl,rfl,rfl,rfl,trivial⟩ rfl) ?_;exact λa w st=>⟨rfl,(l),(SE.fin (Γ':=[(0,Pt c),(5,.eq z8.1),(6,.rep Tl r4.1),(7,I y7.2.2.2.1)]) (Δ':=[.sl z8.1 22 .val (List.set (jl z8.2 0 y7.2.2.2.2) (Int.toNat e.1) l),.sl l 3 Ti (x++[u]),.obj c 46 (.agg (.pair (.rep Tl e.2.1) (.pair (I e.2.2.1) (.eq (.int .u64 e.2.2.2)))))]) [0,1,2] ⟨rfl,rfl,rfl,rfl,trivial⟩ rfl) a w st⟩
     .show JN _ _ [(0,Pt c),(5,.eq z8.1),(6,.rep Tl r4.1),(7,I y7.2.2.2.1)] ([.sl z8.1 22 .val (List.set (jl z8.2 0 y7.2.2.2.2) (Int.toNat e.1) l),.sl l 3 Ti (x++[u]),.obj c 46 (.agg (.pair (.rep Tl e.2.1) (.pair (I e.2.2.1) (.eq (.int .u64 e.2.2.2)))))]++(kg z8.2 0 y7.2.2.2.2).eraseIdx (Int.toNat e.1));refine bv 1 rfl ?_;refine bK (Dk (pre:=[.obj c 46 (.agg (.pair (.rep Tl e.2.1) (.pair (I e.2.2.1) (.eq (.int .u64 e.2.2.2)))))]) (z:=z8) (i:=Int.toNat e.1) (mf s).2) ?_;refine bn ?_;exact mJ ((z8.1,jp z8.2 (Int.toNat e.1) l),(e.2.1,e.2.2.1,e.2.2.2,List.set y7.2.2.2.2 (Int.toNat e.1) (x++[u]))) h (dL [.obj c 46 (.agg (.pair (.rep Tl e.2.1) (.pair (I e.2.2.1) (.eq (.int .u64 e.2.2.2)))))] (j9 22 (z8.1,jp z8.2 (Int.toNat e.1) l) (List.set y7.2.2.2.2 (Int.toNat e.1) (x++[u]))) [0] ⟨rfl,rfl,rfl,rfl,trivial⟩ rfl)
   .refine ab (mq ?_);obtain⟨mc,M,h⟩:=aa h;refine jb (bA rfl M) ?_;refine aq (nl ?_);exact mJ (y,(x9.1,x9.2.1,x9.2.2.1,mc,x9.2.2.2)) h (dL [.obj c 46 (.agg (.pair (.rep Tl x9.1) (.pair (I x9.2.1) (.eq (.int .u64 x9.2.2.1)))))] (j9 22 y x9.2.2.2) [0] ⟨rfl,rfl,rfl,rfl,trivial⟩ rfl)
  .refine xa ?_;exact mJ (z8,(y7.1,y7.2.1,y7.2.2.1,y7.2.2.2.2)) h (dL [.obj c 46 (.agg (.pair (.rep Tl y7.1) (.pair (I y7.2.1) (.eq (.int .u64 y7.2.2.1)))))] (j9 22 z8 y7.2.2.2.2) [0] ⟨rfl,trivial⟩ rfl)
 .
  refine sr (mq ?_);refine aq (nt (aF ?_));refine bK (A4 (pre:=[.obj c 46 (.agg (.pair (.rep Tl x5.1) (.pair (I x5.2.1) (.eq (.int .u64 x5.2.2.1)))))])) ?_;refine bK (jk [4,5,41] ⟨rfl,rfl,rfl,trivial⟩) ?_;cases h;exact aQ () [_] 1 ⟨rfl,trivial⟩ rfl
def fE(k:Nat)(r2:Int×ba):Nat->((List Int)×Int×Int×(List (List (List Int)))×Int)->Option ((List (List (List Int)))×(List Int)×Int×Int)
 |0,_=>none
 |n+1,c=>
  if 0 < c.2.2.2.2 then(((((if 0 < (c.2.2.2.1.length:Int) then((eD k (c.1,c.2.1,c.2.2.1) 3).bind λl=>
  some (l.2.1,l.2.2.1,l.2.2.2,l.1)) else(some (c.1,c.2.1,c.2.2.1,false))):Option ((List Int)×Int×Int×Bool)).bind λe=>
  if e.2.2.2=true then((ck ((c.2.2.2.1.length:Int) - 1)).bind λx=>
  (aG c.2.2.2.1 x).bind λu=>
  (eE k u).bind λr=>
  (cM (bN (length c.2.2.2.1+length [r]))).bind λ_=>
  some (e.1,e.2.1,e.2.2.1,c.2.2.2.1++[r])) else((jT k (e.1,e.2.1,e.2.2.1) r2.1).bind λh=>
  (cM (bN (length c.2.2.2.1+length [h.1]))).bind λ_=>
  some (h.2.1,h.2.2.1,h.2.2.2,c.2.2.2.1++[h.1]))):Option ((List Int)×Int×Int×(List (List (List Int))))).bind λj=>
  (ck (c.2.2.2.2 - 1)).bind λs=>
  fE k r2 n (j.1,j.2.1,j.2.2.1,j.2.2.2,s)) else(some (c.2.2.2.1,c.1,c.2.1,c.2.2.1))
def jU(k:Nat)(a0:ba)(a1:Int)(a2:Int):Option (ae×ba):=
 (fQ k (a0.1,a0.2.1,a0.2.2) 1 a1).bind λr2=>
 (cE k (r2.2.1,r2.2.2.1,r2.2.2.2) 3).bind λr3=>
 (gY k (r3.2.1,r3.2.2.1,r3.2.2.2) [0,1,1,2,r3.1]).bind λr4=>
 (cE k (r4.2.1,r4.2.2.1,r4.2.2.2) 3).bind λr5=>
 (gY k (r5.2.1,r5.2.2.1,r5.2.2.2) [0,1,2,r5.1]).bind λr6=>
 (fQ k (r6.2.1,r6.2.2.1,r6.2.2.2) 1 3).bind λr7=>
 (gY k (r7.2.1,r7.2.2.1,r7.2.2.2) [1,2,r7.1]).bind λr8=>
 (((fQ k (r8.2.1,r8.2.2.1,r8.2.2.2) 1 a2).bind λe=>
 fE k r2 k (e.2.1,e.2.2.1,e.2.2.2,([]:(List (List (List Int)))),e.1)):Option ((List (List (List Int)))×(List Int)×Int×Int)).bind λc=>
 some ((r2.1,r4.1,r6.1,r8.1,c.1,[]),(c.2.1,c.2.2.1,c.2.2.2))
theorem vd(k:Nat)(a0:ba)(c:Nat)(a1:Int)(a2:Int)(r:ae×ba)(h:jU k a0 a1 a2=some r):
 dG Tryz.prog 14 [Pt c,I a1,I a2] [.obj c 46 (.agg (.pair (.rep Tl a0.1) (.pair (I a0.2.1) (.eq (.int .u64 a0.2.2)))))] (λ_:Unit=>(bO [.agg (.pair (I r.1.1) (.pair (I r.1.2.1) (.pair (I r.1.2.2.1) (.pair (I r.1.2.2.2.1) (.pair (.rep (.slice (.slice Tl)) r.1.2.2.2.2.1) (.eq (.slice none 0 0)))))))],[.obj c 46 (.agg (.pair (.rep Tl r.2.1) (.pair (I r.2.2.1) (.eq (.int .u64 r.2.2.2)))))])):=by
 unfold jU at h
 replace h:=bp h
 refine dG.of 67 Tryz.func14 rfl Tryz.ntmps14 rfl λS w0=>?_
 refine sr ?_
 refine aX rfl rfl rfl (bo rfl vS AW) trivial λb1=>?_
 refine nt ?_
 refine sr ?_
 iterate 2 refine mq ?_
 obtain⟨r2,VO,h⟩:=aa h
 have VX:=jg k (a0.1,a0.2.1,a0.2.2) c 1 a1 r2 VO
 refine fr 1 ?_
 refine kc (aC [.tmp 10,.const (.int .i64 (1)),.tmp 11] rfl rfl MD rfl VX) ?_
 iterate 2 refine mq ?_
 obtain⟨r3,VN,h⟩:=aa h
 have VV:=cO k (r2.2.1,r2.2.2.1,r2.2.2.2) c 3 r3 VN
 refine kb (aC [.tmp 14,.const (.int .i64 (3))] rfl rfl wq rfl VV) ?_
 refine bh rfl (bf (t:=Ti) [(.const (.int .i64 (0)),_),(.const (.int .i64 (1)),_),(.const (.int .i64 (1)),_),(.const (.int .i64 (2)),_),(.tmp 15,_)] [0,1,1,2,r3.1] rfl rfl dX (.cons rfl .int (.cons rfl .int (.cons rfl .int (.cons rfl .int (.cons rfl .int .nil))))) rfl rfl) ⟨rfl,rfl,rfl,rfl,rfl,trivial⟩ ?_
 obtain⟨r4,VM,h⟩:=aa h
 have VU:=lC k (r3.2.1,r3.2.2.1,r3.2.2.2) c [0,1,1,2,r3.1] r4 VM
 refine kb (aC [.tmp 13,.tmp 16] rfl rfl PZ rfl VU) ?_
 iterate 2 refine mq ?_
 obtain⟨r5,VL,h⟩:=aa h
 have VT:=cO k (r4.2.1,r4.2.2.1,r4.2.2.2) c 3 r5 VL
 refine kb (aC [.tmp 19,.const (.int .i64 (3))] rfl rfl wq rfl VT) ?_
 refine bh rfl (bf (t:=Ti) [(.const (.int .i64 (0)),_),(.const (.int .i64 (1)),_),(.const (.int .i64 (2)),_),(.tmp 20,_)] [0,1,2,r5.1] rfl rfl dX (.cons rfl .int (.cons rfl .int (.cons rfl .int (.cons rfl .int .nil)))) rfl rfl) ⟨rfl,rfl,rfl,rfl,trivial⟩ ?_
 obtain⟨r6,VK,h⟩:=aa h
 have VS:=lC k (r5.2.1,r5.2.2.1,r5.2.2.2) c [0,1,2,r5.1] r6 VK
 refine kb (aC [.tmp 18,.tmp 21] rfl rfl PZ rfl VS) ?_
 iterate 2 refine mq ?_
 obtain⟨r7,VJ,h⟩:=aa h
 have VQ:=jg k (r6.2.1,r6.2.2.1,r6.2.2.2) c 1 3 r7 VJ
 refine kc (aC [.tmp 24,.const (.int .i64 (1)),.const (.int .i64 (3))] rfl rfl MD rfl VQ) ?_
 refine jc (bf (t:=Ti) [(.const (.int .i64 (1)),_),(.const (.int .i64 (2)),_),(.tmp 25,_)] [1,2,r7.1] rfl rfl dX (.cons rfl .int (.cons rfl .int (.cons rfl .int .nil))) rfl rfl) ?_
 obtain⟨r8,VI,h⟩:=aa h
 have VP:=lC k (r7.2.1,r7.2.2.1,r7.2.2.2) c [1,2,r7.1] r8 VI
 refine kb (aC [.tmp 23,.tmp 26] rfl rfl PZ rfl VP) ?_
 refine bh rfl (eo [(0,.tmp 12,_),(1,.tmp 17,_),(2,.tmp 22,_),(3,.tmp 27,_)] rfl Q4 vS Og (jM ⟨rfl,rfl,rfl,rfl,trivial⟩) rfl) ⟨rfl,rfl,rfl,rfl,trivial⟩ ?_
 refine aX rfl rfl rfl (bo rfl vS AW) trivial λb9=>?_
 refine aP rfl rfl (aM rfl gC trivial rfl rfl) ⟨rfl,rfl,trivial⟩ ?_
 refine nt ?_
 refine aJ (Z:=Value) (α:=(List (List (List Int)))×(List Int)×Int×Int) (λJ y=>[(6,Pt b1),(7,Pt b9)]) (λJ y=>[.obj b1 28 (.agg (.pair (I 0) (.pair (I 0) (.pair (I 0) (.pair (I 0) (.pair (.eq (.slice none 0 0)) (.eq (.slice none 0 0)))))))),.obj b9 28 (.agg (.pair (I r2.1) (.pair (I r4.1) (.pair (I r6.1) (.pair (I r8.1) (.pair (.eq J) (.eq (.slice none 0 0)))))))),.sl J 33 (.slice Tl) y.1,.obj c 46 (.agg (.pair (.rep Tl y.2.1) (.pair (I y.2.2.1) (.eq (.int .u64 y.2.2.2)))))]) h (λK h=>?_) (λJ y h=>?_)
 .
  refine sr ?_;iterate 2 refine mq ?_
  obtain⟨F,qt,h⟩:=aa h;refine fr 1 ?_;refine kc (aC [.tmp 29,.const (.int .i64 (1)),.tmp 30] rfl rfl MD rfl (jg k (r8.2.1,r8.2.2.1,r8.2.2.2) c 1 a2 F qt)) ?_;refine aq (nt (ak ?_));refine fL (SE.nil 33 (.slice Tl)) ?_;refine aH (λu e=>[(0,Pt c),(6,Pt b1),(7,Pt b9),(8,I e.2.2.2.2)]) (λu e=>[.obj c 46 (.agg (.pair (.rep Tl e.1) (.pair (I e.2.1) (.eq (.int .u64 e.2.2.1))))),.obj b1 28 (.agg (.pair (I 0) (.pair (I 0) (.pair (I 0) (.pair (I 0) (.pair (.eq (.slice none 0 0)) (.eq (.slice none 0 0)))))))),.obj b9 28 (.agg (.pair (I r2.1) (.pair (I r4.1) (.pair (I r6.1) (.pair (I r8.1) (.pair (.eq u) (.eq (.slice none 0 0)))))))),.sl u 33 (.slice Tl) e.2.2.2.1]) (fE k r2) k (.slice none 0 0) (F.2.1,F.2.2.1,F.2.2.2,([]:(List (List (List Int)))),F.1) (λ_=>rfl) h (SE.fin [1,3,2,0] ⟨rfl,rfl,rfl,rfl,trivial⟩ rfl) (λn u e h=>?_);unfold fE at h;refine am (sr (mq ?_));refine jb (oG rfl) ?_;refine nt (ci h (λh=>?_) (λh=>?_))
  .refine sk (aJ (Z:=Value) (α:=(List Int)×Int×Int×(List (List (List Int)))) (λD l=>[(0,Pt c),(6,Pt b1),(7,Pt b9),(8,I e.2.2.2.2)]) (λD l=>[.obj c 46 (.agg (.pair (.rep Tl l.1) (.pair (I l.2.1) (.eq (.int .u64 l.2.2.1))))),.obj b1 28 (.agg (.pair (I 0) (.pair (I 0) (.pair (I 0) (.pair (I 0) (.pair (.eq (.slice none 0 0)) (.eq (.slice none 0 0)))))))),.obj b9 28 (.agg (.pair (I r2.1) (.pair (I r4.1) (.pair (I r6.1) (.pair (I r8.1) (.pair (.eq D) (.eq (.slice none 0 0)))))))),.sl D 33 (.slice Tl) l.2.2.2]) h (λK h=>?_) (λD l h=>?_))
   .refine ak (am (sr (fl cS ?_)));refine fr 2 ?_;refine lo gG ?_;refine fr 3 ?_;refine ka (iL rfl rfl xw) ?_;refine aq (nt ?_);refine aJ (Z:=Unit) (α:=(List Int)×Int×Int×Bool) (λQ j=>[(0,Pt c),(6,Pt b1),(7,Pt b9),(8,I e.2.2.2.2),(9,I (e.2.2.2.1.length:Int)),(44,.eq (.bool j.2.2.2))]) (λQ j=>[.obj c 46 (.agg (.pair (.rep Tl j.1) (.pair (I j.2.1) (.eq (.int .u64 j.2.2.1))))),.obj b1 28 (.agg (.pair (I 0) (.pair (I 0) (.pair (I 0) (.pair (I 0) (.pair (.eq (.slice none 0 0)) (.eq (.slice none 0 0)))))))),.obj b9 28 (.agg (.pair (I r2.1) (.pair (I r4.1) (.pair (I r6.1) (.pair (I r8.1) (.pair (.eq u) (.eq (.slice none 0 0)))))))),.sl u 33 (.slice Tl) e.2.2.2.1]) h (λK h=>?_) (λQ j h=>?_)
    .refine ab (mq ?_);refine jb (oG rfl) ?_;refine mq ?_;refine cU (s:=41) rfl (λhb=>?_) (λhb=>?_)
     .replace h:=fo (vI hb) h;refine gm ?_;obtain⟨E,mw,h⟩:=aa h;refine fr 2 ?_;refine nL rfl rfl rfl rfl rfl rfl (aC [.tmp 42,.const (.int .i64 (3))] rfl rfl MF rfl (ia k (e.1,e.2.1,e.2.2.1) c 3 E mw)) ⟨rfl,rfl,trivial⟩ ?_;refine pt (nl ?_);exact jz ((),(E.2.1,E.2.2.1,E.2.2.2,E.1)) h [0,3,2,1]
     .replace h:=di (vJ hb) h;iterate 2 refine gn ?_
      refine pf (nl ?_);exact jz ((),(e.1,e.2.1,e.2.2.1,false)) h [2,3,1,0]
    .refine cv h (λh=>?_) (λh=>?_)
     .refine am (cN ?_);refine da (aA rfl cS) ?_;refine ea 2 (ax rfl gG nY rfl) ?_;refine da (aA rfl cS) ?_;refine ea 2 (ax rfl gG nY rfl) ?_;refine dm ?_;obtain⟨VF,X,h⟩:=aa h;refine db (eA rfl X) ?_;obtain⟨VE,M,h⟩:=aa h;refine eb 3 (bJ (t:=(.slice Tl)) rfl xw mP M) ?_;refine ea 3 (eR (i:=Int.toNat VF) (off:=0) rfl mP (λ_=>rfl) rfl (cP M).2.2 rfl) ?_;obtain⟨O,mt,h⟩:=aa h;refine da (EM (aC [.tmp 52] rfl rfl ME rfl (ta k VE O mt))) ?_;refine da (bf (t:=(.slice Tl)) [(.tmp 53,_)] [O] rfl rfl uD (.cons rfl .rep .nil) rfl rfl) ?_;refine df d4 ?_;obtain⟨VZ,gw,h⟩:=aa h;refine fr 3 ?_;refine dZ rfl rfl rfl (cu rfl rfl uD (au gw)) ⟨rfl,rfl,trivial⟩ λVH=>?_;refine fl cS ?_;refine o0 λo25=>?_;refine fr 3 ?_;refine aP rfl rfl (aM rfl gG o25 rfl rfl) ⟨rfl,rfl,trivial⟩ ?_;refine nt (eO (bi (cT (ao ?_))));exact jz (VH,(j.1,j.2.1,j.2.2.1,e.2.2.2.1++[O])) h [2,3,0,1]
     .refine sk (cN ?_);refine da (aA rfl cS) ?_;refine ea 2 (ax rfl gG nY rfl) ?_;refine dm ?_;refine da (aA rfl ge) ?_;refine ea 2 (ax rfl cL nY rfl) ?_;obtain⟨x,mc,h⟩:=aa h;refine yU 0 rfl rfl rfl rfl (aC [.tmp 59,.tmp 61] rfl rfl UH rfl (vb k (j.1,j.2.1,j.2.2.1) c r2.1 x mc)) ⟨rfl,rfl,trivial⟩ ?_;refine da (bf (t:=(.slice Tl)) [(.tmp 62,_)] [x.1] rfl rfl uD (.cons rfl .rep .nil) rfl rfl) ?_;refine yX (Δ':=[.obj b1 28 (.agg (.pair (I 0) (.pair (I 0) (.pair (I 0) (.pair (I 0) (.pair (.eq (.slice none 0 0)) (.eq (.slice none 0 0)))))))),.obj b9 28 (.agg (.pair (I r2.1) (.pair (I r4.1) (.pair (I r6.1) (.pair (I r8.1) (.pair (.eq u) (.eq (.slice none 0 0)))))))),.sl u 33 (.slice Tl) e.2.2.2.1,.obj c 46 (.agg (.pair (.rep Tl x.2.1) (.pair (I x.2.2.1) (.eq (.int .u64 x.2.2.2)))))]) (by kernel_rfl) d4 (by kernel_rfl) ?_;obtain⟨VY,Y,h⟩:=aa h;refine fr 2 ?_;refine dZ rfl rfl rfl (cu rfl rfl uD (au Y)) ⟨rfl,rfl,trivial⟩ λVG=>?_;refine fl cS ?_;refine o0 λo29=>?_;refine fr 2 ?_;refine aP rfl rfl (aM rfl gG o29 rfl rfl) ⟨rfl,rfl,trivial⟩ ?_;refine aD (bn ?_);exact jz (VG,(x.2.1,x.2.2.1,x.2.2.2,e.2.2.2.1++[x.1])) h [3,2,0,1]
   .refine ab (mq ?_);obtain⟨zz,U,h⟩:=aa h;refine jb (eA rfl U) ?_;refine aq (nl ?_);exact jz (D,(l.1,l.2.1,l.2.2.1,l.2.2.2,zz)) h [0,1,2,3]
  .refine xa ?_;exact jz (u,(e.2.2.2.1,e.1,e.2.1,e.2.2.1)) h [1,2,3,0]
 .
  refine sr (fr 1 ?_);refine fr 2 ?_;refine dM (jA (off:=4) [] trivial rfl rfl) ?_;refine lo gC ?_;refine fr 1 ?_;refine aP rfl rfl (aM rfl gC trivial rfl rfl) ⟨rfl,rfl,trivial⟩ ?_;refine nt (aF (bK (SE.fin (Γ':=[(6,_)]) [2,0,1] ⟨rfl,trivial⟩ rfl) ?_));cases h;exact aQ () [.agg (.pair (I r2.1) (.pair (I r4.1) (.pair (I r6.1) (.pair (I r8.1) (.pair (.rep (.slice (.slice Tl)) y.1) (.eq (.slice none 0 0)))))))] 1 ⟨⟨_,_,_,_,_,rfl,(.tail _ (.head _)),gC,(tP),rfl⟩,trivial⟩ rfl
def eI(k:Nat)(r2:ae×ba):Nat->((List Int)×Int×Int×(List an)×Int)->Option ((List an)×(List Int)×Int×Int)
 |0,_=>none
 |n+1,y7=>
  if 0 < y7.2.2.2.2 then((iq k (y7.1,y7.2.1,y7.2.2.1) (r2.1.1,r2.1.2.1,r2.1.2.2.1,r2.1.2.2.2.1,r2.1.2.2.2.2.1,())).bind λr9=>
  (cM (bN (length y7.2.2.2.1+length [r9.1]))).bind λ_=>
  (ck (y7.2.2.2.2 - 1)).bind λc=>
  eI k r2 n (r9.2.1,r9.2.2.1,r9.2.2.2,y7.2.2.2.1++[r9.1],c)) else(some (y7.2.2.2.1,y7.1,y7.2.1,y7.2.2.1))
def gz(k:Nat)(a0:ba)(a1:Int)(a2:Int):Option (ae×ba):=
 (jU k (a0.1,a0.2.1,a0.2.2) a1 a2).bind λr2=>
 (((cE k (r2.2.1,r2.2.2.1,r2.2.2.2) 4).bind λr6=>
 eI k r2 k (r6.2.1,r6.2.2.1,r6.2.2.2,([]:(List an)),r6.1)):Option ((List an)×(List Int)×Int×Int)).bind λx4=>
 some ((r2.1.1,r2.1.2.1,r2.1.2.2.1,r2.1.2.2.2.1,r2.1.2.2.2.2.1,x4.1),(x4.2.1,x4.2.2.1,x4.2.2.2))
theorem sZ(k:Nat)(a0:ba)(c:Nat)(a1:Int)(a2:Int)(r:ae×ba)(h:gz k a0 a1 a2=some r):
 dG Tryz.prog 5 [Pt c,I a1,I a2] [.obj c 46 (.agg (.pair (.rep Tl a0.1) (.pair (I a0.2.1) (.eq (.int .u64 a0.2.2)))))] (λ_:Unit=>(bO [.rep ap r.1],[.obj c 46 (.agg (.pair (.rep Tl r.2.1) (.pair (I r.2.2.1) (.eq (.int .u64 r.2.2.2)))))])):=by
 unfold gz at h
 replace h:=bp h
 refine dG.of 28 Tryz.func5 rfl Tryz.ntmps5 rfl λS w0=>?_
 refine sr ?_
 refine aX rfl rfl rfl (bo rfl vS AW) trivial λb1=>?_
 refine nt ?_
 refine sr ?_
 iterate 3 refine mq ?_
 obtain⟨r2,D,h⟩:=aa h
 have E:=vd k (a0.1,a0.2.1,a0.2.2) c a1 a2 r2 D
 refine fr 1 ?_
 refine kc (aC [.tmp 9,.tmp 10,.tmp 11] rfl rfl UO rfl E) ?_
 refine aX rfl rfl rfl (bo rfl vS AW) trivial λb3=>?_
 refine aP rfl rfl (aM rfl gC trivial rfl rfl) ⟨rfl,rfl,trivial⟩ ?_
 refine nt ?_
 refine aJ (Z:=Value) (α:=(List an)×(List Int)×Int×Int) (λz5 x4=>[(6,Pt b1),(7,Pt b3)]) (λz5 x4=>[.obj b1 28 (.agg (.pair (I 0) (.pair (I 0) (.pair (I 0) (.pair (I 0) (.pair (.eq (.slice none 0 0)) (.eq (.slice none 0 0)))))))),.obj b3 28 (.agg (.pair (I r2.1.1) (.pair (I r2.1.2.1) (.pair (I r2.1.2.2.1) (.pair (I r2.1.2.2.2.1) (.pair (.rep (.slice (.slice Tl)) r2.1.2.2.2.2.1) (.eq z5))))))),.sl z5 35 ah x4.1,.obj c 46 (.agg (.pair (.rep Tl x4.2.1) (.pair (I x4.2.2.1) (.eq (.int .u64 x4.2.2.2)))))]) h (λK h=>?_) (λz5 x4 h=>?_)
 .
  refine sr (mq ?_);obtain⟨r6,y,h⟩:=aa h;refine fr 1 ?_;refine kb (aC [.tmp 13,.const (.int .i64 (4))] rfl rfl wq rfl (cO k (r2.2.1,r2.2.2.1,r2.2.2.2) c 4 r6 y)) ?_;refine aq (nt (ak ?_));refine fL (SE.nil 35 ah) ?_;refine aH (λz8 y7=>[(0,Pt c),(6,Pt b1),(7,Pt b3),(8,I y7.2.2.2.2)]) (λz8 y7=>[.obj c 46 (.agg (.pair (.rep Tl y7.1) (.pair (I y7.2.1) (.eq (.int .u64 y7.2.2.1))))),.obj b1 28 (.agg (.pair (I 0) (.pair (I 0) (.pair (I 0) (.pair (I 0) (.pair (.eq (.slice none 0 0)) (.eq (.slice none 0 0)))))))),.obj b3 28 (.agg (.pair (I r2.1.1) (.pair (I r2.1.2.1) (.pair (I r2.1.2.2.1) (.pair (I r2.1.2.2.2.1) (.pair (.rep (.slice (.slice Tl)) r2.1.2.2.2.2.1) (.eq z8))))))),.sl z8 35 ah y7.2.2.2.1]) (eI k r2) k (.slice none 0 0) (r6.2.1,r6.2.2.1,r6.2.2.2,([]:(List an)),r6.1) (λ_=>rfl) h (SE.fin [1,3,2,0] ⟨rfl,rfl,rfl,rfl,trivial⟩ rfl) (λn z8 y7 h=>?_);unfold eI at h;refine am (sr (mq ?_));refine jb (oG rfl) ?_;refine nt (ci h (λh=>?_) (λh=>?_))
  .refine sk (am (ak (cN ?_)));refine da (aA rfl mE) ?_;refine ea 2 (ax rfl vW nY rfl) ?_;refine dm ?_;refine ea 2 (ax rfl gC (tP) rfl) ?_;obtain⟨r9,u,h⟩:=aa h;refine yU 0 rfl rfl rfl rfl (cf (N:=[(.tmp 21,Pt c),(.tmp 22,.agg (.pair (I r2.1.1) (.pair (I r2.1.2.1) (.pair (I r2.1.2.2.1) (.pair (I r2.1.2.2.2.1) (.pair (.rep (.slice (.slice Tl)) r2.1.2.2.2.2.1) (.eq z8)))))))]) (aC [.tmp 21,.tmp 22] rfl rfl UN rfl (s6 k (y7.1,y7.2.1,y7.2.2.1) c (r2.1.1,r2.1.2.1,r2.1.2.2.1,r2.1.2.2.2.1,r2.1.2.2.2.2.1,()) r9 u)) λ_ _ _ hn=>⟨hn.1,(Nb (t:=(.pair Ti (.pair Ti (.pair Ti (.pair Ti (.pair (.slice (.slice Tl)) .ign)))))) (x:=(r2.1.1,r2.1.2.1,r2.1.2.2.1,r2.1.2.2.2.1,r2.1.2.2.2.2.1,())) (o7 (jD .int) (o7 (jD .int) (o7 (jD .int) (o7 (jD .int) (o7 (jD .rep) NK))))) hn.2.1),trivial⟩) ⟨rfl,rfl,trivial⟩ ?_;refine da (bf (t:=ah) [(.tmp 23,_)] [r9.1] rfl rfl Fa (.cons rfl .rep .nil) rfl rfl) ?_;refine yX (Δ':=[.obj b1 28 (.agg (.pair (I 0) (.pair (I 0) (.pair (I 0) (.pair (I 0) (.pair (.eq (.slice none 0 0)) (.eq (.slice none 0 0)))))))),.obj b3 28 (.agg (.pair (I r2.1.1) (.pair (I r2.1.2.1) (.pair (I r2.1.2.2.1) (.pair (I r2.1.2.2.2.1) (.pair (.rep (.slice (.slice Tl)) r2.1.2.2.2.2.1) (.eq z8))))))),.sl z8 35 ah y7.2.2.2.1,.obj c 46 (.agg (.pair (.rep Tl r9.2.1) (.pair (I r9.2.2.1) (.eq (.int .u64 r9.2.2.2)))))]) (by kernel_rfl) d4 (by kernel_rfl) ?_;obtain⟨F,j,h⟩:=aa h;refine fr 2 ?_;refine dZ rfl rfl rfl (cu rfl rfl Fa (au j)) ⟨rfl,rfl,trivial⟩ λs=>?_;refine fl mE ?_;refine o0 λo12=>?_;refine fr 2 ?_;refine aP rfl rfl (aM rfl vW o12 rfl rfl) ⟨rfl,rfl,trivial⟩ ?_;refine aD (aR (tn (ab (mq ?_))));obtain⟨l,e,h⟩:=aa h;refine jb (eA rfl e) ?_;refine aq (nl ?_);exact jz (s,(r9.2.1,r9.2.2.1,r9.2.2.2,y7.2.2.2.1++[r9.1],l)) h [3,2,0,1]
  .refine xa ?_;exact jz (z8,(y7.2.2.2.1,y7.1,y7.2.1,y7.2.2.1)) h [1,2,3,0]
 .
  refine sr (fr 1 ?_);refine fr 2 ?_;refine dM (jA (off:=5) [] trivial rfl rfl) ?_;refine lo gC ?_;refine fr 1 ?_;refine aP rfl rfl (aM rfl gC trivial rfl rfl) ⟨rfl,rfl,trivial⟩ ?_;refine nt (aF (bK (ib (a:=.agg (.pair (I r2.1.1) (.pair (I r2.1.2.1) (.pair (I r2.1.2.2.1) (.pair (I r2.1.2.2.2.1) (.pair (.rep (.slice (.slice Tl)) r2.1.2.2.2.2.1) (Rs ah x4.1))))))) (a':=.rep ap (r2.1.1,r2.1.2.1,r2.1.2.2.1,r2.1.2.2.2.1,r2.1.2.2.2.2.1,x4.1)) (jD (.agg (.pair .int (.pair .int (.pair .int (.pair .int (.pair .rep .rep)))))))) ?_));refine bK (SE.fin (Γ':=[(6,_)]) [2,0,1] ⟨rfl,trivial⟩ rfl) ?_;cases h;exact aQ () [.rep ap (r2.1.1,r2.1.2.1,r2.1.2.2.1,r2.1.2.2.2.1,r2.1.2.2.2.2.1,x4.1)] 1 ⟨⟨_,_,_,_,_,rfl,(.tail _ (.head _)),gC,(tP),rfl⟩,trivial⟩ rfl
def fa(k:Nat)(a0:ae)(a1:(List Int)):Nat->(Int×Int)->Option (Except ((Option ae)×Int×Int) Int)
 |0,_=>none
 |n+1,y5=>
  if y5.2 < (a1.length:Int) then((aG a1 y5.2).bind λx7=>
  (ck (a0.1 - 1)).bind λx8=>
  (dP k x7 0 x8).bind λr9=>
  if¬(r9=true) then(some (.error (none,0,3))) else(((if 0 < y5.2 then((ck (y5.2 - 1)).bind λh=>
  (aG a1 h).bind λe=>
  some (decide (x7≤e))) else(some false)):Option (Bool)).bind λj=>
  if j=true then(some (.error (none,0,5))) else((f7 k y5.1 x7).bind λl=>
  (ck (y5.2+1)).bind λc=>
  fa k a0 a1 n (l,c)))) else(some (.ok y5.1))
def dI(k:Nat)(a0:ae)(h:Int)(e:(List Int)):Nat->Int->Option (Except ((Option ae)×Int×Int) Unit)
 |0,_=>none
 |n+1,c=>
  if c < (e.length:Int) then((aG e c).bind λu=>
  (ck (a0.1 - 1)).bind λs=>
  (ck ((a0.2.2.2.2.1.length:Int) - 1)).bind λr=>
  (aG [s,r,(a0.2.2.2.2.1.length:Int)] h).bind λl=>
  (dP k u 0 l).bind λx=>
  if¬(x=true) then(some (.error (none,0,3))) else((ck (c+1)).bind λj=>
  dI k a0 h e n j)) else(some (.ok ()))
def cY(k:Nat)(a0:ae)(a2:(List Int))(a3:(List Int))(a4:(List Int)):Nat->Int->Option (Except ((Option ae)×Int×Int) Unit)
 |0,_=>none
 |n+1,c=>
  if c < ([a2,a3,a4].length:Int) then(bE (α:=Unit) ((aG [a2,a3,a4] c).bind λj=>
  dI k a0 c j k 0) (λe=>some (.error e)) λ_=>
  (ck (c+1)).bind λh=>
  cY k a0 a2 a3 a4 n h) else(some (.ok ()))
def jQ(k:Nat)(a0:ae)(a1:(List Int))(a2:(List Int))(a3:(List Int))(a4:(List Int)):Option ((Option ae)×Int×Int):=
 (mZ k a0).bind λr2=>
 if¬(r2=0) then(some (none,0,r2)) else(bE (α:=Int) (fa k a0 a1 k (0,0)) (some) λx3=>
 bE (α:=Unit) (cY k a0 a2 a3 a4 k 0) (some) λ_=>
 (i8 k a0).bind λe=>
 gI e (none) (λc=>(eJ k c).bind λh=>
 some (some c,x3,0)))
theorem l6(k:Nat)(a0:ae)(a1:(List Int))(a2:(List Int))(a3:(List Int))(a4:(List Int))(r:(Option ae)×Int×Int)(h:jQ k a0 a1 a2 a3 a4=some r):
 cz (ec Tryz.prog) 19 [.rep ap a0,.rep Tl a1,.rep Tl a2,.rep Tl a3,.rep Tl a4] [] (λz:Nat×Nat=>(bO [K8 r.1 z.1,.eq (.int .u8 r.2.1),I r.2.2],K7 r.1 λq=>qQ q z.1 z.2 k)):=by
 unfold jQ at h
 replace h:=bp h
 refine cz.of 95 Tryz.func19 rfl Tryz.ntmps19 rfl λS w0=>?_
 refine sr ?_
 refine bx λb1=>?_
 refine cq ?_
 refine cq ?_
 refine cq ?_
 refine nt ?_
 refine am ?_
 refine sr ?_
 refine lo gC ?_
 obtain⟨r2,V0,h⟩:=aa h
 have V2:=yk k a0 r2 V0
 refine ja (aC [.tmp 22] rfl rfl UF rfl V2) ?_
 refine aq ?_
 refine nt ?_
 refine sr ?_
 refine mq ?_
 refine jb (eX rfl) ?_
 refine nt ?_
 refine cn h (λh=>?_) (λh=>?_)
 .
  refine sr (mq ?_);refine cq ?_;refine cq ?_;refine aq (nt (rx ?_));cases h;exact aQ (0,0) [.eq (.pointer none),_,_] 0 ⟨rfl,rfl,rfl,trivial⟩ rfl
 .
  refine sk (sr (cq (nt ?_)));refine dU (Z:=Unit) (α:=Int) (λz4 x3=>[(2,.rep Tl a2),(3,.rep Tl a3),(4,.rep Tl a4),(5,Pt b1),(14,.eq (.int .u8 x3))]) (λz4 x3=>[.obj b1 28 (.rep ap a0)]) (λe=>e=r) h (λe h=>Option.some.inj h) (λK hR h=>?_) (λz4 x3 h=>?_)
  .refine sr (mq ?_);refine ol ix ?_;refine fy rfl ?_;refine nt (ak (aH (λz6 y5=>[(1,.rep Tl a1),(2,.rep Tl a2),(3,.rep Tl a3),(4,.rep Tl a4),(5,Pt b1),(14,.eq (.int .u8 y5.1)),(27,.rep Tl a1),(28,I (a1.length:Int)),(29,I y5.2)]) (λz6 y5=>[.obj b1 28 (.rep ap a0)]) (fa k a0 a1) k () (0,0) (λ_=>rfl) h (SE.fin [0] ⟨rfl,rfl,rfl,rfl,rfl,rfl,rfl,rfl,rfl,trivial⟩ rfl) (λn z6 y5 h=>?_)));unfold fa at h;refine sr (jb (bG rfl) ?_);refine nt (am (ci h (λh=>?_) (λh=>?_)))
   .refine sk (am (ak (sr (mq ?_))));obtain⟨x7,VY,h⟩:=aa h;refine jb (aU (t:=Ti) rfl ix cL VY) ?_;refine ja (ay (t:=Ti) rfl cL rfl) ?_;refine aq ?_;refine aq (nt (am (sr ?_)));refine mq ?_;refine fl ge ?_;refine lo cL ?_;obtain⟨x8,VX,h⟩:=aa h;refine jb (eA rfl VX) ?_;obtain⟨r9,VZ,h⟩:=aa h;refine jc (aC [.tmp 34,.const (.int .i64 (0)),.tmp 37] rfl rfl yA rfl (dT k x7 0 x8 r9 VZ)) ?_;refine ja (iY rfl) ?_;refine nt (cw h (λh=>?_) (λh=>?_))
    .refine sr (cq ?_);refine cq ?_;refine cq (nt (rx (br (bP (bM ?_)))));obtain rfl:=hR _ h;exact aQ (0,0) [.eq (.pointer none),_,_] 0 ⟨rfl,rfl,rfl,trivial⟩ rfl
    .refine sk (am (aJ (Z:=Unit) (α:=Bool) (λO y=>[(1,.rep Tl a1),(2,.rep Tl a2),(3,.rep Tl a3),(4,.rep Tl a4),(5,Pt b1),(14,.eq (.int .u8 y5.1)),(16,I x7),(27,.rep Tl a1),(28,I (a1.length:Int)),(29,I y5.2),(50,.eq (.bool y))]) (λO y=>[.obj b1 28 (.rep ap a0)]) h (λK h=>?_) (λO y h=>?_)))
     .refine ab (mq ?_);refine jb (oG rfl) ?_;refine mq ?_;refine cU (s:=42) rfl (λhb=>?_) (λhb=>?_)
      .replace h:=fo (vI hb) h;refine gm ?_;refine gm ?_;refine gm ?_;obtain⟨V5,VH,h⟩:=aa h;refine gb (eA rfl VH) ?_;obtain⟨VS,VG,h⟩:=aa h;refine gb (aU (t:=Ti) rfl ix cL VG) ?_;refine ga (ay (t:=Ti) rfl cL rfl) ?_;refine gb (DO rfl) ?_;refine pt (nl ?_);exact jz ((),decide (x7≤VS)) h [0]
      .replace h:=di (vJ hb) h;iterate 7 refine gn ?_
       refine pf (nl ?_);exact jz ((),false) h [0]
     .refine cv h (λh=>?_) (λh=>?_)
      .refine sr (cq ?_);refine cq ?_;refine cq (nt (rx (br (bP (bM ?_)))));obtain rfl:=hR _ h;exact aQ (0,0) [.eq (.pointer none),_,_] 0 ⟨rfl,rfl,rfl,trivial⟩ rfl
      .refine sk (ab ?_);iterate 2 refine mq ?_
       obtain⟨Y,VL,h⟩:=aa h;refine jb (aC [.tmp 51,.tmp 52] rfl rfl PY rfl (ku k y5.1 x7 Y VL)) ?_;refine aq (aD (aR (tn (ab ?_))));obtain⟨VQ,VF,h⟩:=aa h;refine jb (bA rfl VF) ?_;refine mq (nl ?_);exact jz ((),(Y,VQ)) h [0]
   .refine xa ?_;exact jz ((),y5.1) h [0]
  .refine dU (Z:=Unit) (α:=Unit) (λM U=>[(5,Pt b1),(14,.eq (.int .u8 x3))]) (λM U=>[.obj b1 28 (.rep ap a0)]) (λe=>e=r) h (λe h=>Option.some.inj h) (λK hR h=>?_) (λM U h=>?_)
   .refine sr ?_;iterate 3 refine mq ?_
    refine jc (bf (t:=Tl) [(.tmp 55,_),(.tmp 56,_),(.tmp 57,_)] [a2,a3,a4] rfl rfl nX (.cons rfl .rep (.cons rfl .rep (.cons rfl .rep .nil))) rfl rfl) ?_;refine ol qP ?_;refine fy rfl ?_;refine nt (ak (aH (λJ c=>[(5,Pt b1),(14,.eq (.int .u8 x3)),(58,.rep (.slice Tl) [a2,a3,a4]),(59,I ([a2,a3,a4].length:Int)),(60,I c)]) (λJ c=>[.obj b1 28 (.rep ap a0)]) (cY k a0 a2 a3 a4) k () 0 (λ_=>rfl) h (SE.fin [0] ⟨rfl,rfl,rfl,rfl,rfl,trivial⟩ rfl) (λn J c h=>?_)));unfold cY at h;refine sr (jb (bG rfl) ?_);refine nt (am (ci h (λh=>?_) (λh=>?_)))
    .refine sk (dU (Z:=Unit) (α:=Unit) (λE Q=>[(5,Pt b1),(14,.eq (.int .u8 x3)),(58,.rep (.slice Tl) [a2,a3,a4]),(59,I ([a2,a3,a4].length:Int)),(60,I c)]) (λE Q=>[.obj b1 28 (.rep ap a0)]) (λe=>e=r) h (λe h=>hR e h) (λK hR h=>?_) (λE Q h=>?_))
     .refine ak (sr (mq ?_));obtain⟨x,VE,h⟩:=aa h;refine jb (aU (t:=Tl) rfl qP ii VE) ?_;refine ja (ay (t:=Tl) rfl ii rfl) ?_;refine aq ?_;refine aq (nt (sr ?_));refine mq ?_;refine ol ix ?_;refine fy rfl ?_;refine nt (ak (aH (λD u=>[(5,Pt b1),(14,.eq (.int .u8 x3)),(17,I c),(58,.rep (.slice Tl) [a2,a3,a4]),(59,I ([a2,a3,a4].length:Int)),(60,I c),(65,.rep Tl x),(66,I (x.length:Int)),(67,I u)]) (λD u=>[.obj b1 28 (.rep ap a0)]) (dI k a0 c x) k () 0 (λ_=>rfl) h (SE.fin [0] ⟨rfl,rfl,rfl,rfl,rfl,rfl,rfl,rfl,rfl,trivial⟩ rfl) (λn D u h=>?_)));unfold dI at h;refine sr (jb (bG rfl) ?_);refine nt (am (ci h (λh=>?_) (λh=>?_)))
      .refine sk (am (ak (sr ?_)));obtain⟨VP,zz,h⟩:=aa h;refine jb (aU (t:=Ti) rfl ix cL zz) ?_;refine ja (ay (t:=Ti) rfl cL rfl) ?_;refine aq (nt (sr ?_));refine mq ?_;refine fl ge ?_;refine lo cL ?_;obtain⟨V4,qt,h⟩:=aa h;refine jb (eA rfl qt) ?_;refine fl cS ?_;refine lo gG ?_;refine ol xw ?_;obtain⟨V3,mw,h⟩:=aa h;refine jb (eA rfl mw) ?_;refine fl cS ?_;refine lo gG ?_;refine ol xw ?_;refine jc (Fq rfl Vk cL TK) ?_;refine mq ?_;obtain⟨VO,mt,h⟩:=aa h;refine jb (oD (t:=Ti) rfl Vk cL rfl rfl (λ_=>rfl) mt) ?_;obtain⟨VU,VK,h⟩:=aa h;refine jc (aC [.tmp 71,.const (.int .i64 (0)),.tmp 84] rfl rfl yA rfl (dT k VP 0 VO VU VK)) ?_;refine ja (iY rfl) ?_;refine nt (cw h (λh=>?_) (λh=>?_))
       .refine sr (cq ?_);refine cq ?_;refine cq (nt (aF (br (bP (br (bP (bM ?_)))))));obtain rfl:=hR _ h;exact aQ (0,0) [.eq (.pointer none),_,_] 0 ⟨rfl,rfl,rfl,trivial⟩ rfl
       .refine bj (aR (tn (ab ?_)));obtain⟨VN,mc,h⟩:=aa h;refine jb (bA rfl mc) ?_;refine mq (nl ?_);exact jz ((),VN) h [0]
      .refine eO (bi (bi (cT (bn ?_))));exact jz ((),()) h [0]
     .refine ab ?_;obtain⟨VM,gw,h⟩:=aa h;refine jb (bA rfl gw) ?_;refine mq (nl ?_);exact jz ((),VM) h [0]
    .refine xa ?_;exact jz ((),()) h [0]
   .refine sr (lo gC ?_);obtain⟨X,VJ,h⟩:=aa h;have j:=nR k a0 X VJ;rcases hr:X with _ |VV
    .rw [hr] at h j;replace h:=wv h;refine aO (Δ:=[]) (F:=_) (λ_ _ _=>ag rfl _) rfl rfl (aC [.tmp 89] rfl rfl MC rfl j) ⟨rfl,trivial⟩ λ_=>?_;cases h
    .rw [hr] at h j;replace h:=wu h;refine aO (Δ:=[]) (F:=_) (λ_ _ _=>ag rfl _) rfl rfl (aC [.tmp 89] rfl rfl MC rfl j) ⟨rfl,trivial⟩ λl=>?_;refine aq (nt (sr ?_));refine mq ?_;obtain⟨VT,VI,h⟩:=aa h;refine fr 1 ?_;refine fr 1 ?_;refine aO (Δ:=[_,_]) (F:=_) (λ_ _ _=>ag rfl _) rfl rfl (aZ [.tmp 91] rfl rfl UE rfl (qq k VV l.1 l.2 VT VI)) ⟨rfl,trivial⟩ λ_=>?_;refine nt (sr ?_);iterate 2 refine mq ?_
     refine aq ?_;refine aq ?_;refine cq (nt (aF ?_));cases h;exact aQ (l.1,l.2) [.eq (.pointer (some ⟨l.1,0,none⟩)),_,_] 2 ⟨rfl,rfl,rfl,trivial⟩ rfl
def eB(k:Nat)(a0:ae)(r5:(List (List Int)))(x9:Int):Nat->((List (List Int))×Int)->Option (List (List Int))
 |0,_=>none
 |n+1,c=>
  if c.2 < x9 then((aG r5 c.2).bind λj=>
  (cM (0≤a0.1/\a0.1≤5)).bind λ_=>
  (im k (List.take (Int.toNat a0.1) j)).bind λe=>
  (cM (bN (length c.1+length [e]))).bind λ_=>
  (ck (c.2+1)).bind λh=>
  eB k a0 r5 x9 n (c.1++[e],h)) else(some c.1)
def fj(k:Nat)(a0:ae)(a1:(List Int)):Option ((List (List Int))×Int):=
 (jQ k a0 a1 ([]:(List Int)) ([]:(List Int)) ([]:(List Int))).bind λr2=>
 gI r2.1 (if¬(r2.2.2=0) then(some (([]:(List (List Int))),r2.2.2)) else(none)) (λq3=>if¬(r2.2.2=0) then(some (([]:(List (List Int))),r2.2.2)) else((lQ k q3 r2.2.1).bind λr5=>
 (((ck ((a0.2.2.2.2.1.length:Int)+1)).bind λx9=>
 eB k a0 r5 x9 k (([]:(List (List Int))),0)):Option ((List (List Int)))).bind λx7=>
 some (x7,0)))
theorem mz(k:Nat)(a0:ae)(a1:(List Int))(r:(List (List Int))×Int)(h:fj k a0 a1=some r):
 cz (ec Tryz.prog) 10 [.rep ap a0,.rep Tl a1] [] (λ_:Unit=>(bO [.rep (.slice Tl) r.1,I r.2],[])):=by
 unfold fj at h
 replace h:=bp h
 refine cz.of 43 Tryz.func10 rfl Tryz.ntmps10 rfl λS w0=>?_
 refine sr ?_
 refine bx λb1=>?_
 refine cq ?_
 refine cq ?_
 refine nt ?_
 refine sr ?_
 refine lo gC ?_
 refine mq ?_
 obtain⟨r2,X,h⟩:=aa h
 have j:=l6 k a0 a1 ([]:(List Int)) ([]:(List Int)) ([]:(List Int)) r2 X
 rcases hr:r2.1 with _ |q3
 .
  rw [hr] at h j;replace h:=wv h;refine aO (Δ:=[]) (F:=_) (λ_ _ _=>ag rfl _) rfl rfl (cf (N:=[(.tmp 13,.rep ap a0),(.tmp 14,.rep Tl a1),(.const (.slice none 0 0),.eq (.slice none 0 0)),(.const (.slice none 0 0),.eq (.slice none 0 0)),(.const (.slice none 0 0),.eq (.slice none 0 0))]) (aZ [.tmp 13,.tmp 14,.const (.slice none 0 0),.const (.slice none 0 0),.const (.slice none 0 0)] rfl rfl Az rfl j) λ_ _ _ hn=>⟨hn.1,hn.2.1,(aK (t:=Tl) (x:=([]:(List Int))) .nil rfl rfl hn.2.2.1),(aK (t:=Tl) (x:=([]:(List Int))) .nil rfl rfl hn.2.2.2.1),(aK (t:=Tl) (x:=([]:(List Int))) .nil rfl rfl hn.2.2.2.2.1),trivial⟩) ⟨rfl,rfl,rfl,rfl,rfl,trivial⟩ λ_=>?_;refine mq ?_;refine xr ?_;refine xr ?_;refine xr ?_;refine aq ?_;refine aq ?_;refine aq (nt (am (sr ?_)));refine mq ?_;refine jb (eX rfl) ?_;refine nt (cn h (λh=>?_) (λh=>?_))
  .refine sr (mq ?_);refine cq ?_;refine aq (nt (rx ?_));refine bK (fq (t:=(.slice Tl)) (x:=([]:(List (List Int)))) 4 rfl .nil rfl rfl) ?_;cases h;exact rb
  .cases h
 .
  rw [hr] at h j;replace h:=wu h;refine aO (Δ:=[]) (F:=_) (λ_ _ _=>ag rfl _) rfl rfl (cf (N:=[(.tmp 13,.rep ap a0),(.tmp 14,.rep Tl a1),(.const (.slice none 0 0),.eq (.slice none 0 0)),(.const (.slice none 0 0),.eq (.slice none 0 0)),(.const (.slice none 0 0),.eq (.slice none 0 0))]) (aZ [.tmp 13,.tmp 14,.const (.slice none 0 0),.const (.slice none 0 0),.const (.slice none 0 0)] rfl rfl Az rfl j) λ_ _ _ hn=>⟨hn.1,hn.2.1,(aK (t:=Tl) (x:=([]:(List Int))) .nil rfl rfl hn.2.2.1),(aK (t:=Tl) (x:=([]:(List Int))) .nil rfl rfl hn.2.2.2.1),(aK (t:=Tl) (x:=([]:(List Int))) .nil rfl rfl hn.2.2.2.2.1),trivial⟩) ⟨rfl,rfl,rfl,rfl,rfl,trivial⟩ λz4=>?_;refine mq ?_;refine xr ?_;refine xr ?_;refine xr ?_;refine aq ?_;refine aq ?_;refine aq (nt (am (sr ?_)));refine mq ?_;refine jb (eX rfl) ?_;refine nt (cn h (λh=>?_) (λh=>?_))
  .refine sr (mq ?_);refine cq ?_;refine aq (nt (rx ?_));refine bK (fq (t:=(.slice Tl)) (x:=([]:(List (List Int)))) 4 rfl .nil rfl rfl) ?_;cases h;exact rb
  .refine sk (sr (cq (nt (sr ?_))));iterate 2 refine mq ?_
   obtain⟨r5,U,h⟩:=aa h;refine fr 1 ?_;refine fr 1 ?_;refine aO (Δ:=[_,_]) (F:=_) (λ_ _ _=>ag rfl _) rfl rfl (aZ [.tmp 22,.tmp 23] rfl rfl FO rfl (pz k q3 z4.1 z4.2 r2.2.1 r5 U)) ⟨rfl,rfl,trivial⟩ λ_=>?_;refine aX rfl rfl rfl (bo rfl GK Js) trivial λb6=>?_;refine aP rfl rfl (aM rfl Ho rfl rfl rfl) ⟨rfl,rfl,trivial⟩ ?_;refine dM (jy (t:=(.arr 7 Tr)) (x:=r5) [10] .rep ⟨rfl,trivial⟩) ?_;refine nt (aJ (Z:=Value) (α:=(List (List Int))) (λz8 x7=>[(9,.eq z8)]) (λz8 x7=>[.sl z8 22 Tl x7,.inv z4.2 (cj k q3)]) h (λK h=>?_) (λz8 x7 h=>?_))
   .refine sr (fl cS ?_);refine fr 2 ?_;refine lo gG ?_;refine ol xw ?_;obtain⟨x9,Q,h⟩:=aa h;refine jb (bA rfl Q) ?_;refine fy rfl ?_;refine nt (ak (fL (SE.nil 22 Tl) ?_));refine aH (λe c=>[(2,Pt b1),(9,.eq e),(10,.at (.arr 7 Tr) r5),(28,I x9),(29,I c.2)]) (λe c=>[.obj b1 28 (.rep ap a0),.sl e 22 Tl c.1,.inv z4.2 (cj k q3)]) (eB k a0 r5 x9) k (.slice none 0 0) (([]:(List (List Int))),0) (λ_=>rfl) h (SE.fin [1,0,3] ⟨rfl,rfl,rfl,rfl,rfl,trivial⟩ rfl) (λn e c h=>?_);unfold eB at h;refine sr (jb (bG rfl) ?_);refine nt (am (ci h (λh=>?_) (λh=>?_)))
    .refine sk (am (ak (sr (mq ?_))));refine aq (nt ?_);refine cN ?_;refine dm ?_;refine dm ?_;obtain⟨M,y,h⟩:=aa h;refine db (cC (t:=Tr) rfl Kp jm y) ?_;refine da (aA rfl ge) ?_;refine ea 0 (ax rfl cL nY rfl) ?_;obtain⟨gw,l,h⟩:=aa h;refine db (vX (t:=Ti) rfl Dj cL (au l).1 (au l).2) ?_;obtain⟨s,E,h⟩:=aa h;refine da (EM (aC [.tmp 37] rfl rfl UM rfl (sx k (List.take (Int.toNat a0.1) M) s E))) ?_;refine da (bf (t:=Tl) [(.tmp 38,_)] [s] rfl rfl nX (.cons rfl .rep .nil) rfl rfl) ?_;refine df d4 ?_;obtain⟨Y,D,h⟩:=aa h;refine fr 1 ?_;refine dZ rfl rfl rfl (cu rfl rfl nX (au D)) ⟨rfl,rfl,trivial⟩ λO=>?_;refine aq (aD (aR (tn (ab ?_))));obtain⟨J,u,h⟩:=aa h;refine jb (bA rfl u) ?_;refine mq (nl ?_);exact jz (O,(c.1++[s],J)) h [1,0,2]
    .refine xa ?_;exact jz (e,c.1) h [1,2]
   .refine sr (mq ?_);refine aq ?_;refine cq (nt (aF ?_));refine bK (jk [4,9,42] ⟨rfl,rfl,rfl,trivial⟩) ?_;cases h;exact rb
def cF(k:Nat)(a0:ae)(a2:Int)(r1:(List (List Int))):Nat->Int->Option Bool
 |0,_=>none
 |n+1,y3=>
  if y3 < (a0.2.2.2.2.2.length:Int) then((aG a0.2.2.2.2.2 y3).bind λx5=>
  (((eZ k a2 y3).bind λr9=>
  if¬(r9=true) then((aG r1 x5.2.1).bind λh=>
  (aG h x5.1).bind λe=>
  some (!decide ((decide (a0.2.2.1≤e))=x5.2.2))) else(some false)):Option (Bool)).bind λx7=>
  if x7=true then(some false) else((ck (y3+1)).bind λc=>
  cF k a0 a2 r1 n c)) else(some true)
def gJ(k:Nat)(a0:ae)(a1:Int)(a2:Int):Option Bool:=
 (lQ k a0 a1).bind λr1=>
 cF k a0 a2 r1 k 0
theorem oL(k:Nat)(a0:ae)(c z_a0:Nat)(a1:Int)(a2:Int)(r:Bool)(h:gJ k a0 a1 a2=some r):
 Dt (ec Tryz.prog) 75 [Pt c,.eq (.int .u8 a1),.eq (.int .u8 a2)] [.obj c 94 (aW a0 z_a0),.inv z_a0 (cj k a0)] (.iface 139 (.agg #[])) r:=by
 unfold gJ at h
 replace h:=bp h
 refine Dt.of 48 Tryz.func75 rfl Tryz.ntmps75 rfl λS w0=>?_
 refine sr ?_
 iterate 2 refine mq ?_
 obtain⟨r1,E,h⟩:=aa h
 have J:=pz k a0 c z_a0 a1 r1 E
 refine fr 1 ?_
 refine fr 1 ?_
 refine aO (Δ:=[_,_]) (F:=_) (λ_ _ _=>ag rfl _) rfl rfl (aZ [.tmp 9,.tmp 10] rfl rfl FO rfl J) ⟨rfl,rfl,trivial⟩ λ_=>?_
 refine aX rfl rfl rfl (bo rfl GK Js) trivial λb2=>?_
 refine aP rfl rfl (aM rfl Ho rfl rfl rfl) ⟨rfl,rfl,trivial⟩ ?_
 refine dM (jy (t:=(.arr 7 Tr)) (x:=r1) [6] .rep ⟨rfl,trivial⟩) ?_
 refine nt ?_
 refine sr ?_
 refine mq ?_
 refine ja (cV rfl) ?_
 refine fl jx ?_
 refine fl mE ?_
 refine lo vW ?_
 refine ol Oj ?_
 refine fy rfl ?_
 refine nt ?_
 refine ak ?_
 refine aH (λz4 y3=>[(0,Pt c),(2,.eq (.int .u8 a2)),(6,.at (.arr 7 Tr) r1),(16,Rs ah a0.2.2.2.2.2),(17,I (a0.2.2.2.2.2.length:Int)),(18,I y3)]) (λz4 y3=>[.obj c 94 (aW a0 z_a0),.inv z_a0 (cj k a0)]) (cF k a0 a2 r1) k () 0 (λ_=>rfl) h (SE.fin [0,1] ⟨rfl,rfl,rfl,rfl,rfl,rfl,trivial⟩ rfl) (λn z4 y3 h=>?_)
 unfold cF at h
 refine sr ?_
 refine jb (bG rfl) ?_
 refine nt ?_
 refine am ?_
 refine ci h (λh=>?_) (λh=>?_)
 .
  refine sk (am (ak (sr (mq ?_))));obtain⟨x5,y,h⟩:=aa h;refine jb (aU (t:=ah) rfl Oj sw y) ?_;refine ja (ay (t:=ah) rfl sw rfl) ?_;refine aX rfl rfl rfl (bo rfl EY Na) trivial λb6=>?_;refine aq ?_;refine aP rfl rfl (aM rfl sw rfl rfl rfl) ⟨rfl,rfl,trivial⟩ ?_;refine nt (aJ (Z:=Unit) (α:=Bool) (λz8 x7=>[(0,Pt c),(2,.eq (.int .u8 a2)),(6,.at (.arr 7 Tr) r1),(16,Rs ah a0.2.2.2.2.2),(17,I (a0.2.2.2.2.2.length:Int)),(18,I y3),(44,.eq (.bool x7))]) (λz8 x7=>[.obj c 94 (aW a0 z_a0),.inv z_a0 (cj k a0)]) h (λK h=>?_) (λz8 x7 h=>?_))
  .refine cN ?_;refine dm ?_;refine dm ?_;obtain⟨r9,D,h⟩:=aa h;refine db (aC [.tmp 23,.tmp 24] rfl rfl Jc rfl (gW k a2 y3 r9 D)) ?_;refine da (iY rfl) ?_;refine yW rfl rfl rfl (bL rfl) ⟨rfl,trivial⟩ (λhb=>?_) (λhb=>?_)
   .replace h:=fo (zR hb) h;refine ee rfl rfl rfl rfl rfl (aA rfl I5) ⟨rfl,rfl,trivial⟩ ?_;refine kQ 0 rfl rfl rfl rfl rfl rfl (ax rfl cL nY rfl) ⟨rfl,rfl,trivial⟩ ?_;refine ee rfl rfl rfl rfl rfl (aA rfl yw) ⟨rfl,rfl,trivial⟩ ?_;refine kQ 0 rfl rfl rfl rfl rfl rfl (ax rfl cL nY rfl) ⟨rfl,rfl,trivial⟩ ?_;obtain⟨M,l,h⟩:=aa h;refine ee rfl rfl rfl rfl rfl (cC (t:=Tr) rfl Kp jm l) ⟨rfl,rfl,rfl,trivial⟩ ?_;obtain⟨u,j,h⟩:=aa h;refine ee rfl rfl rfl rfl rfl (cC (t:=Ti) rfl Dj cL j) ⟨rfl,rfl,rfl,trivial⟩ ?_;refine ee rfl rfl rfl rfl rfl (ay (t:=Ti) rfl cL rfl) ⟨rfl,rfl,trivial⟩ ?_;refine ee rfl rfl rfl rfl rfl (bL rfl) ⟨rfl,rfl,trivial⟩ ?_;refine ee rfl rfl rfl rfl rfl (cV rfl) ⟨rfl,rfl,trivial⟩ ?_;refine ee rfl rfl rfl rfl rfl (aA rfl jx) ⟨rfl,rfl,trivial⟩ ?_;refine ee rfl rfl rfl rfl rfl (aA rfl CN) ⟨rfl,rfl,trivial⟩ ?_;refine kQ 1 rfl rfl rfl rfl rfl rfl (ax rfl cL nY rfl) ⟨rfl,rfl,trivial⟩ ?_;refine ee rfl rfl rfl rfl rfl (kC rfl) ⟨rfl,rfl,rfl,trivial⟩ ?_;refine ee rfl rfl rfl rfl rfl (aA rfl PU) ⟨rfl,rfl,trivial⟩ ?_;refine kQ 0 rfl rfl rfl rfl rfl rfl (ax rfl Vp nY rfl) ⟨rfl,rfl,trivial⟩ ?_;refine df d4 ?_;refine gb (Pg rfl U4) ?_;refine pt (nl ?_);exact jz ((), !decide ((decide (a0.2.2.1≤u))=x5.2.2)) h [1,2]
   .replace h:=di (tL hb) h;iterate 15 refine dg ?_
    refine df d4 ?_;refine gn ?_;refine pf (nl ?_);exact jz ((),false) h [1,2]
  .refine cv h (λh=>?_) (λh=>?_)
   .refine ab (bh rfl (Ic rfl Ql QL) trivial ?_);refine ja (H9 rfl Ql) ?_;refine Gw rfl rfl rfl rfl ?_;refine Ba ?_;refine tI ?_;refine tI ?_;refine Ba ?_;refine bK (SE.fin (Γ':=[]) [0,1] trivial rfl) ?_;cases h;exact Nz
   .refine bj (aR (tn (ab ?_)));obtain⟨s,e,h⟩:=aa h;refine jb (bA rfl e) ?_;refine mq (nl ?_);exact jz ((),s) h [0,1]
 .
  refine eO (bi (bi (cT (j8 ?_))));refine bK (SE.fin (Γ':=[]) [0,1] trivial rfl) ?_;cases h;exact aQ () [] 2 trivial rfl
def dp(k:Nat)(a0:ae)(a1:Int)(a2:Int):Option Bool:=gJ k a0 a1 a2
theorem NW:Qm Tryz.prog 139 (.agg #[]):=⟨⟨_,Ql⟩,λw=>by kernel_rfl⟩
theorem Jd:∀(S:FS) (w:World),(A.rep (.arr 0 Ti) []).holds S w (.agg #[]):=λ_ _=>⟨[],⟨rfl,rfl⟩,rfl⟩
theorem NL:∀w,(zeroValue 139).run Tryz.prog w= .ok (.agg #[]) w:=λw=>by kernel_rfl
theorem Oh:∀S w,(A.cells S w (.rep (.arr 0 Ti) []) (Value.cells (.agg #[])).toList):=λ_ _=>⟨rfl,rfl⟩
theorem NX:eu Tryz.prog 139 0 true:=⟨λw=>by kernel_rfl,λw=>by kernel_rfl⟩
theorem Us:ai Tryz.prog 74:=ai.of Tryz.func74 (by kernel_rfl) (by kernel_rfl)
theorem RR:ai Tryz.prog 75:=ai.of Tryz.func75 (by kernel_rfl) (by kernel_rfl)
theorem KO:eu Tryz.prog 4 1 false:=⟨λw=>by kernel_rfl,λw=>by kernel_rfl⟩
theorem TM:∀w,(zeroValue 4).run Tryz.prog w= .ok (.bool false) w:=λw=>by kernel_rfl
theorem US:∀S w,(A.cells S w (.eq (.bool false)) (Value.cells (.bool false)).toList):=λ_ _=>⟨rfl,rfl⟩
theorem AL:yY Tryz.prog 74 (.iface 139 (.agg #[])) 4 (.bool false):=by
 refine⟨Us,λM e0=>?_,λM e0=>?_⟩
 .refine lM.of (M:=M) (m:=.returning) (m1:=.returning) (val:=.nilIface) Tryz.func74 rfl rfl (by decide) rfl rfl (by decide) (λρ=>rfl) (λfr b cs hb hm=>HI hb hm rfl) (.inl rfl) λb S w0=>?_;refine ja (Lc Jd rfl NW) ?_;refine mq ?_;refine xr ?_;refine xr ?_;refine aX rfl rfl rfl (bo rfl NL Oh) trivial λb1=>?_;refine aP rfl rfl (aM rfl NX rfl rfl rfl) ⟨rfl,rfl,trivial⟩ ?_;refine aq (nt (sr ?_));refine mq (nt ?_);refine ie rfl (λhb=>by cases hb) (λhb=>?_);refine bj (j8 ?_);refine bK (SE.fin (Γ':=[]) [1] trivial rfl) ?_;exact aQ () [] 1 trivial rfl
 .refine lM.of (M:=M) (m:=.panicking (ik (.iface 139 (.agg #[])) false)) (m1:=.panicking (ik (.iface 139 (.agg #[])) true)) (val:=.iface 139 (.agg #[])) Tryz.func74 rfl rfl (by decide) rfl rfl (by decide) (λρ=>rfl) (λfr b cs hb hm=>HH hb hm) (.inr ⟨_,rfl⟩) λb S w0=>?_;refine ja (La Jd rfl NW) ?_;refine mq ?_;refine xr ?_;refine xr ?_;refine aX rfl rfl rfl (bo rfl NL Oh) trivial λb1=>?_;refine aP rfl rfl (aM rfl NX rfl rfl rfl) ⟨rfl,rfl,trivial⟩ ?_;refine aq (nt (sr ?_));refine mq (nt ?_);refine ie rfl (λhb=>?_) (λhb=>by cases hb);refine ab (fr 1 ?_);refine aP rfl rfl (aM rfl KO rfl rfl rfl) ⟨rfl,rfl,trivial⟩ ?_;refine aD (j8 ?_);refine bK (SE.fin (Γ':=[]) [0] trivial rfl) ?_;exact aQ () [] 1 trivial rfl
theorem oa(k:Nat)(a0:ae)(c z_a0:Nat)(a1:Int)(a2:Int)(r:Bool)(h:dp k a0 a1 a2=some r):
 cz (ec Tryz.prog) 46 [Pt c,.eq (.int .u8 a1),.eq (.int .u8 a2)] (qQ a0 c z_a0 k) (λ_:Unit=>(bO [.eq (.bool r)],qQ a0 c z_a0 k)):=by
 have cr:=oL k a0 c z_a0 a1 a2 r h
 refine Bf 12 Tryz.func46 rfl Tryz.ntmps46 rfl λS w0=>?_
 refine sr ?_
 refine aX rfl rfl rfl (bo rfl TM US) trivial λb6=>?_
 refine nt ?_
 refine sr ?_
 refine ja (sG [] [.tmp 6] [] [(Pv b6)] rfl rfl rfl) ?_
 refine JR rfl rfl rfl rfl rfl ?_
 refine nt ?_
 refine sr ?_
 iterate 3 refine mq ?_
 refine fr 2 ?_
 refine fr 2 ?_
 cases r with
 |false=>
  refine JS (Ss:=[Pt c,.eq (.int .u8 a1),.eq (.int .u8 a2)]) (Δ:=qQ a0 c z_a0 k) (F:=[.obj b6 4 (.eq (.bool false))]) [.tmp 8,.tmp 9,.tmp 10] rfl rfl rfl rfl RR ⟨rfl,rfl,rfl,trivial⟩ cr ?_;refine tI ?_;refine bK (SE.fin (Γ':=[(6,_)]) [2,0,1] ⟨rfl,trivial⟩ rfl) ?_;refine Gx AL ?_;refine bK (SE.fin (Γ':=[(6,_)]) [1,2,0] ⟨rfl,trivial⟩ rfl) ?_;exact aQ () [.eq (.bool false)] 2 ⟨⟨_,_,_,_,_,rfl,(.tail _ (.tail _ (.head _))),KO,(λ_=>rfl),rfl⟩,trivial⟩ rfl
 |true=>
  refine aO (Δ:=qQ a0 c z_a0 k) (F:=[.obj b6 4 (.eq (.bool false))]) (λ_ _ _=>ag rfl _) rfl rfl (aZ [.tmp 8,.tmp 9,.tmp 10] rfl rfl RR rfl cr.ok) ⟨rfl,rfl,rfl,trivial⟩ λ_=>?_;refine nt (sr (fr 2 ?_));refine aP rfl rfl (aM rfl KO rfl rfl rfl) ⟨rfl,rfl,trivial⟩ ?_;refine nt (aF (Ny AL ?_));refine bK (SE.fin (Γ':=[(6,_)]) [1,2,0] ⟨rfl,trivial⟩ rfl) ?_;exact aQ () [.eq (.bool true)] 2 ⟨⟨_,_,_,_,_,rfl,(.tail _ (.tail _ (.head _))),KO,(λ_=>rfl),rfl⟩,trivial⟩ rfl
def eH(k:Nat)(a0:ae)(a1:Int):Option (List Int):=
 (jS k (qX (λ(y5:(List Int)) (p7:Int)=>
  (dp k a0 p7 a1).bind λr9=>
  if r9=true then((cM (bN (length y5+length [p7]))).bind λ_=>
  some (y5++[p7],true)) else(some (y5,true)))) a0.1 (([]:(List Int)),false)).bind λr8=>
 if r8.2=true then(none) else(some r8.1)
theorem kD(k:Nat)(a0:ae)(c z_a0:Nat)(a1:Int)(r:(List Int))(h:eH k a0 a1=some r):
 cz (ec Tryz.prog) 22 [Pt c,.eq (.int .u8 a1)] [.obj c 94 (aW a0 z_a0),.inv z_a0 (cj k a0)] (λ_:Unit=>(bO [.rep (.slice (.int .u8)) r],[.obj c 94 (aW a0 z_a0),.inv z_a0 (cj k a0)])):=by
 unfold eH at h
 replace h:=bp h
 refine vF 23 Tryz.func22 rfl Tryz.ntmps22 rfl λS w0=>?_
 refine sr ?_
 refine bx λb1=>?_
 refine bx λb2=>?_
 refine cq ?_
 refine nt ?_
 refine sr ?_
 refine aX rfl rfl rfl (bo rfl Kr M8) trivial λb3=>?_
 refine nt ?_
 refine am ?_
 refine sr ?_
 refine fr 2 ?_
 refine lo KN ?_
 refine ja (cV rfl) ?_
 refine fl jx ?_
 refine fl ge ?_
 refine fr 3 ?_
 refine lo cL ?_
 refine aX rfl rfl rfl (aC [.tmp 11] rfl rfl R9 rfl (rG a0.1)) ⟨rfl,trivial⟩ λb4=>?_
 refine nt ?_
 refine ak ?_
 refine fL (SE.nil 52 (.int .u8)) ?_
 refine dE 6 rfl ?_
 refine dE 6 rfl ?_
 refine dE 2 rfl ?_
 refine dE 6 rfl ?_
 refine dE 6 rfl ?_
 refine dE 6 rfl ?_
 refine dE 6 rfl ?_
 obtain⟨r8,s,h⟩:=aa h
 refine rZ (Δ:=[.obj b4 3 (I a0.1),.obj c 94 (aW a0 z_a0),.obj b1 51 (Pt c),.obj b3 61 (.eq (.slice none 0 0)),.sl (.slice none 0 0) 52 (.int .u8) ([]:(List Int)),.obj b2 52 (.eq (.int .u8 a1)),.inv z_a0 (cj k a0)]) (F:=[]) (X:=Value) (J:=λ_=>QH r8.2) (E:=λz6=>[.obj b4 3 (I a0.1),.obj c 94 (aW a0 z_a0),.obj b1 51 (Pt c),.obj b3 61 (.eq z6),.sl z6 52 (.int .u8) r8.1,.obj b2 52 (.eq (.int .u8 a1)),.inv z_a0 (cj k a0)]) (r0:=λ_=>.tup .any) rfl rfl RU (λrec hp ha hb hs hpe hN hv l=>?_) (λdl z6=>ux (λhj=>?_) (λhj=>?_))
 .
  rcases rec with⟨st0,pe0,fn0,tm0,ps0,as0,bd0,df0⟩;dsimp only at hp ha hb hs hpe hN hv;subst hp hs hpe;have vN:A1 tm0 [(2,Pt b1),(3,Pt b2),(5,Pt b3)]:=⟨congrArg A.eq (hv 2 _ rfl).symm,congrArg A.eq (hv 3 _ rfl).symm,congrArg A.eq (hv 5 _ rfl).symm,trivial⟩;refine cz.pick (M:=(ec Tryz.prog)) [1,0,2,3,4,5,6,7] [1,0,2,3,4,5,6,7] (oM (λ(z6:Value) (q:(List Int)×Bool)=>[.raw l (.loop (km ⟨.ready,none,fn0,tm0, #[13],as0,bd0,df0⟩ (QH q.2))),.obj c 94 (aW a0 z_a0),.obj b1 51 (Pt c),.obj b3 61 (.eq z6),.sl z6 52 (.int .u8) q.1,.obj b2 52 (.eq (.int .u8 a1)),.inv z_a0 (cj k a0)]) l (qX (λ(y5:(List Int)) (p7:Int)=>
  (dp k a0 p7 a1).bind λr9=>
  if r9=true then((cM (bN (length y5+length [p7]))).bind λ_=>
  some (y5++[p7],true)) else(some (y5,true)))) k a0.1 b4 (λz6 q p r' h=>?_) (.slice none 0 0) (([]:(List Int)),false) r8 s) rfl (λ_=>rfl) (λ_=>rfl)
  obtain⟨rq,hq,h2,rfl⟩:=uy h;obtain⟨y5,b5⟩:=q;obtain rfl:b5=false:=hq;replace h:=bp h2;obtain⟨p7,hpv⟩:∃x,x=p:=⟨_,rfl⟩;subst hpv;refine YT.pick (R':=(λz6:Value=>(.eq (.bool rq.2),[.raw l (.loop (km ⟨.ready,none,fn0,tm0, #[13],as0,bd0,df0⟩ (QH (!rq.2)))),.obj c 94 (aW a0 z_a0),.obj b1 51 (Pt c),.obj b3 61 (.eq z6),.sl z6 52 (.int .u8) rq.1,.obj b2 52 (.eq (.int .u8 a1)),.inv z_a0 (cj k a0)]))) [0,1,2,3,4,5,6] [0,1,2,3,4,5,6] (Jv ha hb (N:=23) (Γ:=[(2,Pt b1),(3,Pt b2),(5,Pt b3)]) rfl hN (by decide) vN (λS w=>?_)) rfl (λ_=>rfl) (λ_=>rfl);refine ab (aq (nl ?_));refine Bc rfl rfl ?_;refine ak (sr (fr 2 ?_));refine lo KN ?_;refine mq ?_;refine fr 5 ?_;refine lo qc ?_;obtain⟨r9,n,h⟩:=aa h;refine fr 6 ?_;refine fr 4 ?_;refine aO (Δ:=[_,_]) (F:=_) (λ_ _ _=>ag rfl _) rfl rfl (aZ [.tmp 14,.tmp 15,.tmp 16] rfl rfl UD rfl (oa k a0 c z_a0 p7 a1 r9 n)) ⟨rfl,rfl,rfl,trivial⟩ λ_=>?_;refine nt (cv h (λh=>?_) (λh=>?_))
  .refine ab (fr 5 ?_);refine lo xP ?_;refine mq ?_;refine ja (bf (t:=(.int .u8)) [(.tmp 19,_)] [p7] rfl rfl KZ (.cons rfl .int .nil) rfl rfl) ?_;obtain⟨u,e,h⟩:=aa h;refine fr 6 ?_;refine dZ rfl rfl rfl (cu rfl rfl KZ (au e)) ⟨rfl,rfl,trivial⟩ λj=>?_;refine o0 λo12=>?_;refine fr 1 ?_;refine aP rfl rfl (aM rfl xP o12 rfl rfl) ⟨rfl,rfl,trivial⟩ ?_;refine aD (aR (bv 3 rfl ?_));refine bv 4 rfl ?_;refine bv 3 rfl ?_;refine bv 3 rfl ?_;refine bv 5 rfl ?_;refine bv 5 rfl ?_;refine bv 6 rfl ?_;cases h;exact pH j 6 rfl
  .refine bj (aR (bv 1 rfl ?_));refine bv 2 rfl ?_;refine bv 6 rfl ?_;refine bv 6 rfl ?_;refine bv 5 rfl ?_;refine bv 5 rfl ?_;refine bv 6 rfl ?_;cases h;exact pH z6 6 rfl
 .
  replace h:=di (OH hj) h;refine aR (tn (sr (fr 4 ?_)));refine lo xP ?_;refine aq (nt (aF ?_));refine bv 5 rfl ?_;refine bK (jA (off:=0) [4,22] ⟨rfl,rfl,trivial⟩ rfl rfl) ?_;refine bv 1 rfl ?_;refine EQ ?_;refine bK (SE.fin (Γ':=[(4,_)]) [2,5,0,1,3,4] ⟨rfl,trivial⟩ rfl) ?_;cases h;exact aQ () [_] 2 ⟨rfl,trivial⟩ rfl
 .
  replace h:=fo (OG hj) h;cases h
def eC(k:Nat)(r7:(List Int)):Nat->((List (List Int))×Int)->Option (List (List Int))
 |0,_=>none
 |n+1,y8=>
  if y8.2 < (r7.length:Int) then((aG r7 y8.2).bind λh=>
  (f8 k h).bind λc=>
  (cM (bN (length y8.1+length [c]))).bind λ_=>
  (ck (y8.2+1)).bind λe=>
  eC k r7 n (y8.1++[c],e)) else(some y8.1)
def gd(k:Nat)(a0:ae):Option ((List (List Int))×Int):=
 (jQ k a0 ([]:(List Int)) ([]:(List Int)) ([]:(List Int)) ([]:(List Int))).bind λr2=>
 gI r2.1 (if¬(r2.2.2=0) then(some (([]:(List (List Int))),r2.2.2)) else(none)) (λq3=>if¬(r2.2.2=0) then(some (([]:(List (List Int))),r2.2.2)) else((((eH k q3 0).bind λr7=>
 eC k r7 k (([]:(List (List Int))),0)):Option ((List (List Int)))).bind λx5=>
 some (x5,0)))
theorem mA(k:Nat)(a0:ae)(r:(List (List Int))×Int)(h:gd k a0=some r):
 cz (ec Tryz.prog) 11 [.rep ap a0] [] (λ_:Unit=>(bO [.rep (.slice Tl) r.1,I r.2],[])):=by
 unfold gd at h
 replace h:=bp h
 refine cz.of 33 Tryz.func11 rfl Tryz.ntmps11 rfl λS w0=>?_
 refine sr ?_
 refine bx λb1=>?_
 refine cq ?_
 refine cq ?_
 refine nt ?_
 refine sr ?_
 refine lo gC ?_
 obtain⟨r2,M,h⟩:=aa h
 have c:=l6 k a0 ([]:(List Int)) ([]:(List Int)) ([]:(List Int)) ([]:(List Int)) r2 M
 rcases hr:r2.1 with _ |q3
 .
  rw [hr] at h c;replace h:=wv h;refine aO (Δ:=[]) (F:=_) (λ_ _ _=>ag rfl _) rfl rfl (cf (N:=[(.tmp 11,.rep ap a0),(.const (.slice none 0 0),.eq (.slice none 0 0)),(.const (.slice none 0 0),.eq (.slice none 0 0)),(.const (.slice none 0 0),.eq (.slice none 0 0)),(.const (.slice none 0 0),.eq (.slice none 0 0))]) (aZ [.tmp 11,.const (.slice none 0 0),.const (.slice none 0 0),.const (.slice none 0 0),.const (.slice none 0 0)] rfl rfl Az rfl c) λ_ _ _ hn=>⟨hn.1,(aK (t:=Tl) (x:=([]:(List Int))) .nil rfl rfl hn.2.1),(aK (t:=Tl) (x:=([]:(List Int))) .nil rfl rfl hn.2.2.1),(aK (t:=Tl) (x:=([]:(List Int))) .nil rfl rfl hn.2.2.2.1),(aK (t:=Tl) (x:=([]:(List Int))) .nil rfl rfl hn.2.2.2.2.1),trivial⟩) ⟨rfl,rfl,rfl,rfl,rfl,trivial⟩ λ_=>?_;refine mq ?_;refine xr ?_;refine xr ?_;refine xr ?_;refine aq ?_;refine aq ?_;refine aq (nt (am (sr ?_)));refine mq ?_;refine jb (eX rfl) ?_;refine nt (cn h (λh=>?_) (λh=>?_))
  .refine sr (mq ?_);refine cq ?_;refine aq (nt (rx ?_));refine bK (fq (t:=(.slice Tl)) (x:=([]:(List (List Int)))) 2 rfl .nil rfl rfl) ?_;cases h;exact rb
  .cases h
 .
  rw [hr] at h c;replace h:=wu h;refine aO (Δ:=[]) (F:=_) (λ_ _ _=>ag rfl _) rfl rfl (cf (N:=[(.tmp 11,.rep ap a0),(.const (.slice none 0 0),.eq (.slice none 0 0)),(.const (.slice none 0 0),.eq (.slice none 0 0)),(.const (.slice none 0 0),.eq (.slice none 0 0)),(.const (.slice none 0 0),.eq (.slice none 0 0))]) (aZ [.tmp 11,.const (.slice none 0 0),.const (.slice none 0 0),.const (.slice none 0 0),.const (.slice none 0 0)] rfl rfl Az rfl c) λ_ _ _ hn=>⟨hn.1,(aK (t:=Tl) (x:=([]:(List Int))) .nil rfl rfl hn.2.1),(aK (t:=Tl) (x:=([]:(List Int))) .nil rfl rfl hn.2.2.1),(aK (t:=Tl) (x:=([]:(List Int))) .nil rfl rfl hn.2.2.2.1),(aK (t:=Tl) (x:=([]:(List Int))) .nil rfl rfl hn.2.2.2.2.1),trivial⟩) ⟨rfl,rfl,rfl,rfl,rfl,trivial⟩ λz4=>?_;refine mq ?_;refine xr ?_;refine xr ?_;refine xr ?_;refine aq ?_;refine aq ?_;refine aq (nt (am (sr ?_)));refine mq ?_;refine jb (eX rfl) ?_;refine nt (cn h (λh=>?_) (λh=>?_))
  .refine sr (mq ?_);refine cq ?_;refine aq (nt (rx ?_));refine bK (fq (t:=(.slice Tl)) (x:=([]:(List (List Int)))) 2 rfl .nil rfl rfl) ?_;cases h;exact rb
  .refine sk (sr (cq (nt ?_)));refine aJ (Z:=Value) (α:=(List (List Int))) (λz6 x5=>[(7,.eq z6)]) (λz6 x5=>[.sl z6 22 Tl x5,.inv z4.2 (cj k q3)]) h (λK h=>?_) (λz6 x5 h=>?_)
   .refine sr (mq ?_);obtain⟨r7,J,h⟩:=aa h;refine fr 1 ?_;refine fr 1 ?_;refine aO (Δ:=[_,_]) (F:=_) (λ_ _ _=>ag rfl _) rfl rfl (aZ [.tmp 19,.const (.int .u8 (0))] rfl rfl Sl rfl (kD k q3 z4.1 z4.2 0 r7 J)) ⟨rfl,rfl,trivial⟩ λ_=>?_;refine ol Bq ?_;refine fy rfl ?_;refine nt (ak (fL (SE.nil 22 Tl) ?_));refine aH (λz9 y8=>[(7,.eq z9),(20,.rep (.slice (.int .u8)) r7),(21,I (r7.length:Int)),(22,I y8.2)]) (λz9 y8=>[.sl z9 22 Tl y8.1,.inv z4.2 (cj k q3)]) (eC k r7) k (.slice none 0 0) (([]:(List (List Int))),0) (λ_=>rfl) h (SE.fin [0,2] ⟨rfl,rfl,rfl,rfl,trivial⟩ rfl) (λn z9 y8 h=>?_);unfold eC at h;refine sr (jb (bG rfl) ?_);refine nt (am (ci h (λh=>?_) (λh=>?_)))
    .refine sk (am (ak (sr ?_)));obtain⟨D,l,h⟩:=aa h;refine jb (aU (t:=(.int .u8)) rfl Bq qc l) ?_;refine ja (ay (t:=(.int .u8)) rfl qc rfl) ?_;refine aq (nt (ab ?_));iterate 2 refine mq ?_
     obtain⟨e,u,h⟩:=aa h;refine ja (aC [.tmp 27] rfl rfl P1 rfl (kw k D e u)) ?_;refine ja (bf (t:=Tl) [(.tmp 28,_)] [e] rfl rfl nX (.cons rfl .rep .nil) rfl rfl) ?_;obtain⟨O,s,h⟩:=aa h;refine dZ rfl rfl rfl (cu rfl rfl nX (au s)) ⟨rfl,rfl,trivial⟩ λE=>?_;refine aq (aD (aR (tn (ab ?_))));obtain⟨y,j,h⟩:=aa h;refine jb (bA rfl j) ?_;refine mq (nl ?_);exact jz (E,(y8.1++[e],y)) h [0,1]
    .refine xa ?_;exact jz (z9,y8.1) h [0,1]
   .refine sr (mq ?_);refine aq ?_;refine cq (nt (aF ?_));refine bK (jk [2,7,32] ⟨rfl,rfl,rfl,trivial⟩) ?_;cases h;exact rb
def mY(k:Nat)(a0:ae)(a1:(List Int))(a2:(List Int))(a3:(List Int)):Option ((Option ae)×(List Int)×Int):=
 (jQ k a0 ([]:(List Int)) a1 a2 a3).bind λr2=>
 gI r2.1 (if¬(r2.2.2=0) then(some (none,([]:(List Int)),r2.2.2)) else(none)) (λq3=>if¬(r2.2.2=0) then(some (none,([]:(List Int)),r2.2.2)) else((eH k q3 0).bind λr5=>
 if(r5.length:Int)=0 then(some (none,([]:(List Int)),9)) else(some (some q3,r5,0))))
theorem nB(k:Nat)(a0:ae)(a1:(List Int))(a2:(List Int))(a3:(List Int))(r:(Option ae)×(List Int)×Int)(h:mY k a0 a1 a2 a3=some r):
 cz (ec Tryz.prog) 49 [.rep ap a0,.rep Tl a1,.rep Tl a2,.rep Tl a3] [] (λz:Nat×Nat=>(bO [K8 r.1 z.1,.rep (.slice (.int .u8)) r.2.1,I r.2.2],K7 r.1 λq=>qQ q z.1 z.2 k)):=by
 unfold mY at h
 replace h:=bp h
 refine cz.of 34 Tryz.func49 rfl Tryz.ntmps49 rfl λS w0=>?_
 refine sr ?_
 refine bx λb1=>?_
 refine cq ?_
 refine cq ?_
 refine cq ?_
 refine nt ?_
 refine sr ?_
 refine lo gC ?_
 iterate 3 refine mq ?_
 obtain⟨r2,j,h⟩:=aa h
 have c:=l6 k a0 ([]:(List Int)) a1 a2 a3 r2 j
 rcases hr:r2.1 with _ |q3
 .
  rw [hr] at h c;replace h:=wv h;refine aO (Δ:=[]) (F:=_) (λ_ _ _=>ag rfl _) rfl rfl (cf (N:=[(.tmp 16,.rep ap a0),(.const (.slice none 0 0),.eq (.slice none 0 0)),(.tmp 17,.rep Tl a1),(.tmp 18,.rep Tl a2),(.tmp 19,.rep Tl a3)]) (aZ [.tmp 16,.const (.slice none 0 0),.tmp 17,.tmp 18,.tmp 19] rfl rfl Az rfl c) λ_ _ _ hn=>⟨hn.1,(aK (t:=Tl) (x:=([]:(List Int))) .nil rfl rfl hn.2.1),hn.2.2.1,hn.2.2.2.1,hn.2.2.2.2.1,trivial⟩) ⟨rfl,rfl,rfl,rfl,rfl,trivial⟩ λ_=>?_;refine mq ?_;refine xr ?_;refine xr ?_;refine xr ?_;refine aq ?_;refine aq ?_;refine aq (nt (am (sr ?_)));refine mq ?_;refine jb (eX rfl) ?_;refine nt (cn h (λh=>?_) (λh=>?_))
  .refine sr (mq ?_);refine cq ?_;refine cq ?_;refine aq (nt (rx ?_));refine bK (fq (t:=(.slice (.int .u8))) (x:=([]:(List Int))) 9 rfl .nil rfl rfl) ?_;cases h;exact aQ (0,0) [.eq (.pointer none),_,_] 0 ⟨rfl,rfl,rfl,trivial⟩ rfl
  .cases h
 .
  rw [hr] at h c;replace h:=wu h;refine aO (Δ:=[]) (F:=_) (λ_ _ _=>ag rfl _) rfl rfl (cf (N:=[(.tmp 16,.rep ap a0),(.const (.slice none 0 0),.eq (.slice none 0 0)),(.tmp 17,.rep Tl a1),(.tmp 18,.rep Tl a2),(.tmp 19,.rep Tl a3)]) (aZ [.tmp 16,.const (.slice none 0 0),.tmp 17,.tmp 18,.tmp 19] rfl rfl Az rfl c) λ_ _ _ hn=>⟨hn.1,(aK (t:=Tl) (x:=([]:(List Int))) .nil rfl rfl hn.2.1),hn.2.2.1,hn.2.2.2.1,hn.2.2.2.2.1,trivial⟩) ⟨rfl,rfl,rfl,rfl,rfl,trivial⟩ λz4=>?_;refine mq ?_;refine xr ?_;refine xr ?_;refine xr ?_;refine aq ?_;refine aq ?_;refine aq (nt (am (sr ?_)));refine mq ?_;refine jb (eX rfl) ?_;refine nt (cn h (λh=>?_) (λh=>?_))
  .refine sr (mq ?_);refine cq ?_;refine cq ?_;refine aq (nt (rx ?_));refine bK (fq (t:=(.slice (.int .u8))) (x:=([]:(List Int))) 9 rfl .nil rfl rfl) ?_;cases h;exact aQ (0,0) [.eq (.pointer none),_,_] 0 ⟨rfl,rfl,rfl,trivial⟩ rfl
  .refine sk (sr (mq ?_));obtain⟨r5,e,h⟩:=aa h;refine fr 1 ?_;refine fr 1 ?_;refine aO (Δ:=[_,_]) (F:=_) (λ_ _ _=>ag rfl _) rfl rfl (aZ [.tmp 27,.const (.int .u8 (0))] rfl rfl Sl rfl (kD k q3 z4.1 z4.2 0 r5 e)) ⟨rfl,rfl,trivial⟩ λ_=>?_;refine aq (nt (am (sr ?_)));refine mq ?_;refine ol Bq ?_;refine jb (jN rfl) ?_;refine nt (ci h (λh=>?_) (λh=>?_))
   .refine sr (cq ?_);refine cq ?_;refine cq (nt (rx ?_));refine bK (fq (t:=(.slice (.int .u8))) (x:=([]:(List Int))) 9 rfl .nil rfl rfl) ?_;cases h;exact aQ (0,0) [.eq (.pointer none),_,_] 0 ⟨rfl,rfl,rfl,trivial⟩ rfl
   .refine sk (sr ?_);iterate 2 refine mq ?_
    refine aq ?_;refine aq ?_;refine cq (nt (aF ?_));cases h;exact aQ (z4.1,z4.2) [.eq (.pointer (some ⟨z4.1,0,none⟩)),_,_] 2 ⟨rfl,rfl,rfl,trivial⟩ rfl
def f9(k:Nat)(a2:Int)(r1:(List (List Int)))(x5:Int):Nat->Int->Option (Except Int Unit)
 |0,_=>none
 |n+1,y6=>
  if y6 < x5 then((aG r1 y6).bind λx8=>
  (aG x8 a2).bind λx9=>
  if 0≤x9 then(some (.error y6)) else((ck (y6+1)).bind λc=>
  f9 k a2 r1 x5 n c)) else(some (.ok ()))
def iE(k:Nat)(a0:ae)(a1:Int)(a2:Int):Option Int:=
 (lQ k a0 a1).bind λr1=>
 bE (α:=Unit) ((ck ((a0.2.2.2.2.1.length:Int)+1)).bind λx5=>
 f9 k a2 r1 x5 k 0) (some) λ_=>
 some (-1:Int)
theorem ly(k:Nat)(a0:ae)(c z_a0:Nat)(a1:Int)(a2:Int)(r:Int)(h:iE k a0 a1 a2=some r):
 cz (ec Tryz.prog) 50 [Pt c,.eq (.int .u8 a1),I a2] [.obj c 94 (aW a0 z_a0),.inv z_a0 (cj k a0)] (λ_:Unit=>(bO [I r],[.obj c 94 (aW a0 z_a0),.inv z_a0 (cj k a0)])):=by
 unfold iE at h
 replace h:=bp h
 refine cz.of 30 Tryz.func50 rfl Tryz.ntmps50 rfl λS w0=>?_
 refine sr ?_
 refine cq ?_
 refine nt ?_
 refine sr ?_
 iterate 2 refine mq ?_
 obtain⟨r1,D,h⟩:=aa h
 have E:=pz k a0 c z_a0 a1 r1 D
 refine fr 1 ?_
 refine fr 1 ?_
 refine aO (Δ:=[_,_]) (F:=_) (λ_ _ _=>ag rfl _) rfl rfl (aZ [.tmp 9,.tmp 10] rfl rfl FO rfl E) ⟨rfl,rfl,trivial⟩ λ_=>?_
 refine aX rfl rfl rfl (bo rfl GK Js) trivial λb2=>?_
 refine aP rfl rfl (aM rfl Ho rfl rfl rfl) ⟨rfl,rfl,trivial⟩ ?_
 refine dM (jy (t:=(.arr 7 Tr)) (x:=r1) [7] .rep ⟨rfl,trivial⟩) ?_
 refine nt ?_
 refine dU (Z:=Unit) (α:=Unit) (λz4 x3=>[]) (λz4 x3=>[.obj c 94 (aW a0 z_a0),.inv z_a0 (cj k a0)]) (λe=>e=r) h (λe h=>Option.some.inj h) (λK hR h=>?_) (λz4 x3 h=>?_)
 .
  refine sr (mq ?_);refine ja (cV rfl) ?_;refine fl jx ?_;refine fl cS ?_;refine lo gG ?_;refine ol xw ?_;obtain⟨x5,y,h⟩:=aa h;refine jb (bA rfl y) ?_;refine fy rfl ?_;refine nt (ak (aH (λz7 y6=>[(2,I a2),(7,.at (.arr 7 Tr) r1),(18,I x5),(19,I y6)]) (λz7 y6=>[.obj c 94 (aW a0 z_a0),.inv z_a0 (cj k a0)]) (f9 k a2 r1 x5) k () 0 (λ_=>rfl) h (SE.fin [0,1] ⟨rfl,rfl,rfl,rfl,trivial⟩ rfl) (λn z7 y6 h=>?_)));unfold f9 at h;refine sr (jb (bG rfl) ?_);refine nt (am (ci h (λh=>?_) (λh=>?_)))
  .refine sk (am (ak (sr (mq ?_))));refine aq (nt (sr ?_));iterate 2 refine mq ?_
   obtain⟨x8,u,h⟩:=aa h;refine jb (cC (t:=Tr) rfl Kp jm u) ?_;obtain⟨x9,s,h⟩:=aa h;refine jb (cC (t:=Ti) rfl Dj cL s) ?_;refine ja (ay (t:=Ti) rfl cL rfl) ?_;refine jb (kC rfl) ?_;refine nt (ci h (λh=>?_) (λh=>?_))
   .refine sr (mq ?_);refine aq (nt (aF (br (bP (bM ?_)))));obtain rfl:=hR _ h;exact aQ () [_] 2 ⟨rfl,trivial⟩ rfl
   .refine bj (aR (tn (ab ?_)));obtain⟨l,j,h⟩:=aa h;refine jb (bA rfl j) ?_;refine mq (nl ?_);exact jz ((),l) h [0,1]
  .refine xa ?_;exact jz ((),()) h [0,1]
 .
  refine sr (cq (nt (aF ?_)));cases h;exact aQ () [_] 2 ⟨rfl,trivial⟩ rfl
def kL(k:Nat)(a1:Int)(r3:(Option ae)×(List Int)×Int)(q4:ae):Nat->((List Int)×Int)->Option (List Int)
 |0,_=>none
 |n+1,y8=>
  if y8.2 < (r3.2.1.length:Int) then((((aG r3.2.1 y8.2).bind λh=>
  (iE k q4 h a1).bind λc=>
  if 0≤c then((cM (bN (length y8.1+length [c]))).bind λ_=>
  some (y8.1++[c])) else(some y8.1)):Option ((List Int))).bind λj=>
  (ck (y8.2+1)).bind λe=>
  kL k a1 r3 q4 n (j,e)) else(some y8.1)
def sU(k:Nat)(a0:ae)(a1:Int):Option (fK×Int):=
 (mY k a0 [a1] ([]:(List Int)) ([]:(List Int))).bind λr3=>
 gI r3.1 (if¬(r3.2.2=0) then(some ((0,0),r3.2.2)) else(none)) (λq4=>if¬(r3.2.2=0) then(some ((0,0),r3.2.2)) else(((kL k a1 r3 q4 k (([]:(List Int)),0)):Option ((List Int))).bind λx6=>
 if(x6.length:Int)=0 then(some ((0,0),11)) else((lU k x6).bind λe=>
 (ou k x6).bind λc=>
 some ((e,c),0))))
theorem yj(k:Nat)(a0:ae)(a1:Int)(r:fK×Int)(h:sU k a0 a1=some r):
 cz (ec Tryz.prog) 25 [.rep ap a0,I a1] [] (λ_:Unit=>(bO [.rep bX r.1,I r.2],[])):=by
 unfold sU at h
 replace h:=bp h
 refine cz.of 51 Tryz.func25 rfl Tryz.ntmps25 rfl λS w0=>?_
 refine sr ?_
 refine bx λb1=>?_
 refine aX rfl rfl rfl (bo rfl Br SN) trivial λb2=>?_
 refine cq ?_
 refine nt ?_
 refine sr ?_
 refine fr 1 ?_
 refine lo gC ?_
 refine mq ?_
 refine ja (bf (t:=Ti) [(.tmp 15,_)] [a1] rfl rfl dX (.cons rfl .int .nil) rfl rfl) ?_
 obtain⟨r3,Y,h⟩:=aa h
 have s:=nB k a0 [a1] ([]:(List Int)) ([]:(List Int)) r3 Y
 rcases hr:r3.1 with _ |q4
 .
  rw [hr] at h s;replace h:=wv h;refine aO (Δ:=[]) (F:=_) (λ_ _ _=>ag rfl _) rfl rfl (cf (N:=[(.tmp 14,.rep ap a0),(.tmp 16,.rep Tl [a1]),(.const (.slice none 0 0),.eq (.slice none 0 0)),(.const (.slice none 0 0),.eq (.slice none 0 0))]) (aZ [.tmp 14,.tmp 16,.const (.slice none 0 0),.const (.slice none 0 0)] rfl rfl FM rfl s) λ_ _ _ hn=>⟨hn.1,hn.2.1,(aK (t:=Tl) (x:=([]:(List Int))) .nil rfl rfl hn.2.2.1),(aK (t:=Tl) (x:=([]:(List Int))) .nil rfl rfl hn.2.2.2.1),trivial⟩) ⟨rfl,rfl,rfl,rfl,trivial⟩ λ_=>?_;refine mq ?_;refine xr ?_;refine xr ?_;refine xr ?_;refine aq ?_;refine aq ?_;refine aq (nt (am (sr ?_)));refine mq ?_;refine jb (eX rfl) ?_;refine nt (cn h (λh=>?_) (λh=>?_))
  .refine sr (bh rfl (eo [] rfl HQ Br AV (jM trivial) rfl) trivial ?_);refine mq ?_;refine fr 1 ?_;refine aP rfl rfl (aM rfl vV trivial rfl rfl) ⟨rfl,rfl,trivial⟩ ?_;refine aq (nt (rx ?_));refine bK (ib (a:=.agg (.pair (I 0) (I 0))) (a':=.rep bX (0,0)) (jD (.agg (.pair .int .int)))) ?_;cases h;exact aQ () [.rep bX (0,0),_] 0 ⟨⟨_,_,_,_,_,rfl,(.head _),vV,(tP),rfl⟩,rfl,trivial⟩ rfl
  .cases h
 .
  rw [hr] at h s;replace h:=wu h;refine aO (Δ:=[]) (F:=_) (λ_ _ _=>ag rfl _) rfl rfl (cf (N:=[(.tmp 14,.rep ap a0),(.tmp 16,.rep Tl [a1]),(.const (.slice none 0 0),.eq (.slice none 0 0)),(.const (.slice none 0 0),.eq (.slice none 0 0))]) (aZ [.tmp 14,.tmp 16,.const (.slice none 0 0),.const (.slice none 0 0)] rfl rfl FM rfl s) λ_ _ _ hn=>⟨hn.1,hn.2.1,(aK (t:=Tl) (x:=([]:(List Int))) .nil rfl rfl hn.2.2.1),(aK (t:=Tl) (x:=([]:(List Int))) .nil rfl rfl hn.2.2.2.1),trivial⟩) ⟨rfl,rfl,rfl,rfl,trivial⟩ λz5=>?_;refine mq ?_;refine xr ?_;refine xr ?_;refine xr ?_;refine aq ?_;refine aq ?_;refine aq (nt (am (sr ?_)));refine mq ?_;refine jb (eX rfl) ?_;refine nt (cn h (λh=>?_) (λh=>?_))
  .refine sr (bh rfl (eo [] rfl HQ Br AV (jM trivial) rfl) trivial ?_);refine mq ?_;refine fr 3 ?_;refine aP rfl rfl (aM rfl vV trivial rfl rfl) ⟨rfl,rfl,trivial⟩ ?_;refine aq (nt (rx ?_));refine bK (ib (a:=.agg (.pair (I 0) (I 0))) (a':=.rep bX (0,0)) (jD (.agg (.pair .int .int)))) ?_;cases h;exact aQ () [.rep bX (0,0),_] 0 ⟨⟨_,_,_,_,_,rfl,(.head _),vV,(tP),rfl⟩,rfl,trivial⟩ rfl
  .refine sk (sr (cq (nt ?_)));refine aJ (Z:=Value) (α:=(List Int)) (λz7 x6=>[(4,Pt b2),(9,.eq z7)]) (λz7 x6=>[.obj b2 66 (.agg (.pair (I 0) (I 0))),.sl z7 3 Ti x6,.inv z5.2 (cj k q4)]) h (λK h=>?_) (λz7 x6 h=>?_)
   .refine sr (mq ?_);refine ol Bq ?_;refine fy rfl ?_;refine nt (ak (fL (SE.nil 3 Ti) ?_));refine aH (λz9 y8=>[(1,I a1),(4,Pt b2),(6,.eq (.pointer (some ⟨z5.1,0,none⟩))),(9,.eq z9),(25,.rep (.slice (.int .u8)) r3.2.1),(26,I (r3.2.1.length:Int)),(27,I y8.2)]) (λz9 y8=>[.obj b2 66 (.agg (.pair (I 0) (I 0))),.obj z5.1 94 (aW q4 z5.2),.sl z9 3 Ti y8.1,.inv z5.2 (cj k q4)]) (kL k a1 r3 q4) k (.slice none 0 0) (([]:(List Int)),0) (λ_=>rfl) h (SE.fin [4,1,0,2] ⟨rfl,rfl,rfl,rfl,rfl,rfl,rfl,trivial⟩ rfl) (λn z9 y8 h=>?_);unfold kL at h;refine sr (jb (bG rfl) ?_);refine nt (am (ci h (λh=>?_) (λh=>?_)))
    .refine sk (aJ (Z:=Value) (α:=(List Int)) (λc e=>[(1,I a1),(4,Pt b2),(6,.eq (.pointer (some ⟨z5.1,0,none⟩))),(9,.eq c),(25,.rep (.slice (.int .u8)) r3.2.1),(26,I (r3.2.1.length:Int)),(27,I y8.2)]) (λc e=>[.obj b2 66 (.agg (.pair (I 0) (I 0))),.obj z5.1 94 (aW q4 z5.2),.sl c 3 Ti e,.inv z5.2 (cj k q4)]) h (λK h=>?_) (λc e h=>?_))
     .refine ak (sr ?_);obtain⟨U,D,h⟩:=aa h;refine jb (aU (t:=(.int .u8)) rfl Bq qc D) ?_;refine ja (ay (t:=(.int .u8)) rfl qc rfl) ?_;refine aq (nt (sr ?_));iterate 3 refine mq ?_
      obtain⟨u,O,h⟩:=aa h;refine fr 3 ?_;refine fr 2 ?_;refine aO (Δ:=[_,_]) (F:=_) (λ_ _ _=>ag rfl _) rfl rfl (aZ [.tmp 31,.tmp 32,.tmp 33] rfl rfl R7 rfl (ly k q4 z5.1 z5.2 U a1 u O)) ⟨rfl,rfl,rfl,trivial⟩ λ_=>?_;refine aq (nt (sr ?_));refine mq ?_;refine jb (kC rfl) ?_;refine nt (ci h (λh=>?_) (λh=>?_))
      .refine ab ?_;iterate 2 refine mq ?_
       refine ja (bf (t:=Ti) [(.tmp 38,_)] [u] rfl rfl dX (.cons rfl .int .nil) rfl rfl) ?_;obtain⟨gw,E,h⟩:=aa h;refine fr 3 ?_;refine dZ rfl rfl rfl (cu rfl rfl dX (au E)) ⟨rfl,rfl,trivial⟩ λX=>?_;refine aq (aD (bn ?_));exact jz (X,y8.1++[u]) h [3,1,0,2]
      .refine bj (bn ?_);exact jz (z9,y8.1) h [2,0,3,1]
     .refine ab ?_;obtain⟨Q,y,h⟩:=aa h;refine jb (bA rfl y) ?_;refine mq (nl ?_);exact jz (c,(e,Q)) h [0,1,2,3]
    .refine xa ?_;exact jz (z9,y8.1) h [0,2,3]
   .refine am (sr (mq ?_));refine fr 1 ?_;refine ka (iL rfl rfl ix) ?_;refine jb (jN rfl) ?_;refine nt (ci h (λh=>?_) (λh=>?_))
    .refine sr (bh rfl (eo [] rfl HQ Br AV (jM trivial) rfl) trivial ?_);refine fr 1 ?_;refine aP rfl rfl (aM rfl vV trivial rfl rfl) ⟨rfl,rfl,trivial⟩ ?_;refine cq (nt (rx ?_));refine bK (ib (a:=.agg (.pair (I 0) (I 0))) (a':=.rep bX (0,0)) (jD (.agg (.pair .int .int)))) ?_;cases h;exact aQ () [.rep bX (0,0),_] 0 ⟨⟨_,_,_,_,_,rfl,(.head _),vV,(tP),rfl⟩,rfl,trivial⟩ rfl
    .refine sk (sr (mq ?_));obtain⟨l,M,h⟩:=aa h;refine ka (lJ (N:=[(.tmp 46,.eq z7)]) (aC [.tmp 46] rfl rfl R2 rfl (ot k x6 l M)) (λ_ _ _ hv hn=>⟨(lend hn.1 hv),trivial⟩) (λ_=>⟨rfl,oR⟩)) ?_;refine mq ?_;obtain⟨j,J,h⟩:=aa h;refine ka (lJ (N:=[(.tmp 48,.eq z7)]) (aC [.tmp 48] rfl rfl UC rfl (uC k x6 j J)) (λ_ _ _ hv hn=>⟨(lend hn.1 hv),trivial⟩) (λ_=>⟨rfl,oR⟩)) ?_;refine jb (eo [(0,.tmp 47,_),(1,.tmp 49,_)] rfl HQ Br AV (jM ⟨rfl,rfl,trivial⟩) rfl) ?_;refine fr 1 ?_;refine aP rfl rfl (aM rfl vV trivial rfl rfl) ⟨rfl,rfl,trivial⟩ ?_;refine cq (nt (aF ?_));refine bK (ib (a:=.agg (.pair (I l) (I j))) (a':=.rep bX (l,j)) (jD (.agg (.pair .int .int)))) ?_;cases h;exact aQ () [.rep bX (l,j),_] 0 ⟨⟨_,_,_,_,_,rfl,(.head _),vV,(tP),rfl⟩,rfl,trivial⟩ rfl
def gK(k:Nat)(r2:(List (List Int)))(y6:Int×Int×(List (eQ×eQ))):Nat->Int->Option Int
 |0,_=>none
 |n+1,c=>
  ((if 0 < c then((ck (c - 1)).bind λl=>
  (aG r2 l).bind λj=>
  (aG j y6.1).bind λh=>
  some (decide (0≤h))) else(some false)):Option (Bool)).bind λr=>
  if r=true then((ck (c - 1)).bind λe=>
  gK k r2 y6 n e) else(some c)
def gP(k:Nat)(a0:ae)(r2:(List (List Int))):Nat->(Int×Int×(List (eQ×eQ)))->Option (List (fK×fK))
 |0,_=>none
 |n+1,y6=>
  bE (α:=Int×Int×(List (eQ×eQ))) (((gK k r2 y6 k y6.2.1):Option (Int)).bind λc=>
  if c=0 then((cM (zx (y6.1,y6.2.1))).bind λ_=>
  some (.error (Cj y6.2.2 (y6.1,y6.2.1) ((-1:Int),0)))) else((ck (c - 1)).bind λr=>
  (aG r2 r).bind λl=>
  (ck (c - 1)).bind λj=>
  (dC k a0 l y6.1 j).bind λh=>
  (ck (c - 1)).bind λe=>
  (cM (zx (y6.1,y6.2.1))).bind λ_=>
  some (.ok (h,e,Cj y6.2.2 (y6.1,y6.2.1) (h,e))))) (some) λx8=>
  gP k a0 r2 n (x8.1,x8.2.1,x8.2.2)
def lA(k:Nat)(a0:ae)(a1:Int)(a2:fK):Option (List (fK×fK)):=
 (lQ k a0 a1).bind λr2=>
 gP k a0 r2 k (a2.1,a2.2,([]:List (eQ×eQ)))
theorem rF(k:Nat)(a0:ae)(c z_a0:Nat)(a1:Int)(a2:fK)(r:(List (fK×fK)))(h:lA k a0 a1 a2=some r):
 cz (ec Tryz.prog) 53 [Pt c,.eq (.int .u8 a1),.rep bX a2] [.obj c 94 (aW a0 z_a0),.inv z_a0 (cj k a0)] (λz:Nat=>(bO [.eq (.map (some z))],[.inv z (t3 r),.obj c 94 (aW a0 z_a0),.inv z_a0 (cj k a0)])):=by
 unfold lA at h
 replace h:=bp h
 refine cz.of 56 Tryz.func53 rfl Tryz.ntmps53 rfl λS w0=>?_
 refine sr ?_
 refine bx λb1=>?_
 refine cq ?_
 refine nt ?_
 refine sr ?_
 iterate 2 refine mq ?_
 obtain⟨r2,VZ,h⟩:=aa h
 have V0:=pz k a0 c z_a0 a1 r2 VZ
 refine fr 2 ?_
 refine fr 2 ?_
 refine aO (Δ:=[_,_]) (F:=_) (λ_ _ _=>ag rfl _) rfl rfl (aZ [.tmp 12,.tmp 13] rfl rfl FO rfl V0) ⟨rfl,rfl,trivial⟩ λ_=>?_
 refine aX rfl rfl rfl (bo rfl GK Js) trivial λb3=>?_
 refine aP rfl rfl (aM rfl Ho rfl rfl rfl) ⟨rfl,rfl,trivial⟩ ?_
 refine dM (jy (t:=(.arr 7 Tr)) (x:=r2) [7] .rep ⟨rfl,trivial⟩) ?_
 refine nt ?_
 refine sr ?_
 refine aX rfl rfl rfl (wR rfl) trivial λz4=>?_
 refine dM (tG (t3 []) KI) ?_
 refine aq ?_
 refine nt ?_
 refine sr ?_
 refine aX rfl rfl rfl (bo rfl tK AX) trivial λb5=>?_
 refine nt ?_
 refine sr ?_
 refine fl yx ?_
 refine aP rfl rfl (aM rfl cL rfl rfl rfl) ⟨rfl,rfl,trivial⟩ ?_
 refine nt ?_
 refine ak ?_
 refine dE 4 rfl ?_
 refine fL (ib (a:=.rep bX a2) (a':=.agg (.pair (I a2.1) (I a2.2))) (AE.trans EX (AE.agg (AE.trans Bh (AE.pair AE.int AE.int))))) ?_
 refine aH (λz7 y6=>[(0,Pt c),(5,Pt b1),(7,.at (.arr 7 Tr) r2),(8,.eq (.map (some z4))),(9,Pt b5)]) (λz7 y6=>[.obj c 94 (aW a0 z_a0),.obj b1 108 (.agg (.pair (I y6.1) (I y6.2.1))),.obj b5 108 (.agg (.pair (I (-1:Int)) (I 0))),.inv z_a0 (cj k a0),.inv z4 (t3 y6.2.2)]) (gP k a0 r2) k () (a2.1,a2.2,([]:List (eQ×eQ))) (λ_=>rfl) h (SE.fin [3,0,1,4,2] ⟨rfl,rfl,rfl,rfl,rfl,trivial⟩ rfl) (λn z7 y6 h=>?_)
 unfold gP at h
 refine JX (Z:=Unit) (α:=Int×Int×(List (eQ×eQ))) (λz9 x8=>[(0,Pt c),(5,Pt b1),(7,.at (.arr 7 Tr) r2),(8,.eq (.map (some z4))),(9,Pt b5)]) (λz9 x8=>[.obj c 94 (aW a0 z_a0),.obj b1 108 (.agg (.pair (I x8.1) (I x8.2.1))),.obj b5 108 (.agg (.pair (I (-1:Int)) (I 0))),.inv z_a0 (cj k a0),.inv z4 (t3 x8.2.2)]) (λe=>e=r) h (λe h=>Option.some.inj h) (λK hR h=>?_) (λz9 x8 h=>?_)
 .
  refine ak (sr (fl Me ?_));refine fr 1 ?_;refine lo cL ?_;refine aq (nt ?_);refine aJ (Z:=Unit) (α:=Int) (λO D=>[(0,Pt c),(5,Pt b1),(7,.at (.arr 7 Tr) r2),(8,.eq (.map (some z4))),(9,Pt b5),(10,I D)]) (λO D=>[.obj c 94 (aW a0 z_a0),.obj b1 108 (.agg (.pair (I y6.1) (I y6.2.1))),.obj b5 108 (.agg (.pair (I (-1:Int)) (I 0))),.inv z_a0 (cj k a0),.inv z4 (t3 y6.2.2)]) h (λK h=>?_) (λO D h=>?_)
  .refine ak (aH (λM s=>[(0,Pt c),(5,Pt b1),(7,.at (.arr 7 Tr) r2),(8,.eq (.map (some z4))),(9,Pt b5),(10,I s)]) (λM s=>[.obj c 94 (aW a0 z_a0),.obj b1 108 (.agg (.pair (I y6.1) (I y6.2.1))),.obj b5 108 (.agg (.pair (I (-1:Int)) (I 0))),.inv z_a0 (cj k a0),.inv z4 (t3 y6.2.2)]) (gK k r2 y6) k () y6.2.1 (λ_=>rfl) h (SE.fin [1,0,2,3,4] ⟨rfl,rfl,rfl,rfl,rfl,rfl,trivial⟩ rfl) (λn M s h=>?_));unfold gK at h;refine am (aJ (Z:=Unit) (α:=Bool) (λJ y=>[(0,Pt c),(5,Pt b1),(7,.at (.arr 7 Tr) r2),(8,.eq (.map (some z4))),(9,Pt b5),(10,I s),(30,.eq (.bool y))]) (λJ y=>[.obj c 94 (aW a0 z_a0),.obj b1 108 (.agg (.pair (I y6.1) (I y6.2.1))),.obj b5 108 (.agg (.pair (I (-1:Int)) (I 0))),.inv z_a0 (cj k a0),.inv z4 (t3 y6.2.2)]) h (λK h=>?_) (λJ y h=>?_))
   .refine cN ?_;refine dm ?_;refine db (oG rfl) ?_;refine yW rfl rfl rfl (bL rfl) ⟨rfl,trivial⟩ (λhb=>?_) (λhb=>?_)
    .replace h:=fo (vI hb) h;refine ee rfl rfl rfl rfl rfl (bL rfl) ⟨rfl,rfl,trivial⟩ ?_;obtain⟨V9,VG,h⟩:=aa h;refine ee rfl rfl rfl rfl rfl (eA rfl VG) ⟨rfl,rfl,rfl,trivial⟩ ?_;refine ee rfl rfl rfl rfl rfl (aA rfl yx) ⟨rfl,rfl,trivial⟩ ?_;refine kQ 1 rfl rfl rfl rfl rfl rfl (ax rfl cL nY rfl) ⟨rfl,rfl,trivial⟩ ?_;obtain⟨V8,VF,h⟩:=aa h;refine ee rfl rfl rfl rfl rfl (cC (t:=Tr) rfl Kp jm VF) ⟨rfl,rfl,rfl,trivial⟩ ?_;refine df d4 ?_;obtain⟨VN,VE,h⟩:=aa h;refine gb (cC (t:=Ti) rfl Dj cL VE) ?_;refine ga (ay (t:=Ti) rfl cL rfl) ?_;refine gb (kC rfl) ?_;refine pt (nl ?_);exact jz ((),decide (0≤VN)) h [0,1,2,3,4]
    .replace h:=di (vJ hb) h;iterate 5 refine dg ?_
     refine df d4 ?_;iterate 3 refine gn ?_
     refine pf (nl ?_);exact jz ((),false) h [0,1,2,3,4]
   .refine cv h (λh=>?_) (λh=>?_)
    .refine sk (ak (ab (mq ?_)));obtain⟨VM,zz,h⟩:=aa h;refine jb (eA rfl zz) ?_;refine aq (aD (bn ?_));exact jz ((),VM) h [0,1,2,3,4]
    .refine xa ?_;exact jz ((),s) h [0,1,2,3,4]
  .refine am (sr (mq ?_));refine jb (jN rfl) ?_;refine nt (ci h (λh=>?_) (λh=>?_))
   .refine sr (mq ?_);refine fr 1 ?_;refine lo jL ?_;refine fr 2 ?_;refine lo jL ?_;refine dM (fq (t:=bX) (x:=(y6.1,y6.2.1)) 36 rfl (.agg (.pair .int .int)) trivial rfl) ?_;obtain⟨Wu,VI,h⟩:=aa h;refine dM (fq (t:=bX) (x:=((-1:Int),0)) 37 rfl (.agg (.pair .int .int)) trivial rfl) ?_;refine fr 4 ?_;refine aP rfl rfl (rm (K:=lg) (V:=lg) (t:=(y6.1,y6.2.1)) (n:=((-1:Int),0)) (l:=y6.2.2) (λ_ _ _ h=>nq h) rfl Gg mO (λ_ _ _ h=>nq h) (qV (au VI)) (qU _) qW) ⟨rfl,rfl,rfl,trivial⟩ ?_;refine nt (sr (mq ?_));refine aq (nt (rx (br (bP ?_))));refine bK (SE.fin (Γ':=[(6,_)]) [0,3,4,1,2] ⟨rfl,trivial⟩ rfl) ?_;obtain rfl:=hR _ h;exact aQ z4 [.eq (.map (some z4))] 3 ⟨rfl,trivial⟩ rfl
   .refine sk (am (sa ?_));refine bY rfl rfl rfl (bL rfl) ⟨rfl,trivial⟩ ?_;refine bY rfl rfl rfl (bL rfl) ⟨rfl,trivial⟩ ?_;obtain⟨V7,qt,h⟩:=aa h;refine bY rfl rfl rfl (eA rfl qt) ⟨rfl,rfl,trivial⟩ ?_;obtain⟨VL,mw,h⟩:=aa h;refine bY rfl rfl rfl (cC (t:=Tr) rfl Kp jm mw) ⟨rfl,rfl,trivial⟩ ?_;refine bY rfl rfl rfl (ay (t:=Tr) rfl jm rfl) ⟨rfl,trivial⟩ ?_;refine bY rfl rfl rfl (aA rfl yx) ⟨rfl,trivial⟩ ?_;refine il 1 rfl rfl rfl rfl (ax rfl cL nY rfl) ⟨rfl,trivial⟩ ?_;refine bY rfl rfl rfl (bL rfl) ⟨rfl,trivial⟩ ?_;obtain⟨VK,mt,h⟩:=aa h;refine bY rfl rfl rfl (eA rfl mt) ⟨rfl,rfl,trivial⟩ ?_;obtain⟨j,VJ,h⟩:=aa h;refine il 0 rfl rfl rfl rfl (aC [.tmp 39,.tmp 43,.tmp 45,.tmp 47] rfl rfl RV rfl (nZ k a0 c z_a0 VL y6.1 VK j VJ)) ⟨rfl,rfl,rfl,rfl,trivial⟩ ?_;refine bY rfl rfl rfl (bL rfl) ⟨rfl,trivial⟩ ?_;obtain⟨u,mc,h⟩:=aa h;refine bY rfl rfl rfl (eA rfl mc) ⟨rfl,rfl,trivial⟩ ?_;refine bY rfl rfl rfl (eo [(0,.tmp 48,_),(1,.tmp 50,_)] rfl HS tK Dc (jM ⟨rfl,rfl,trivial⟩) rfl) ⟨rfl,rfl,trivial⟩ ?_;refine NE (O5 108 (.agg (.pair (I 0) (I 0)))) (λ_=>rfl) rfl rfl rfl (bo rfl tK AX) trivial ?_;refine vE 14 [true,true,true,true,true,true,true,true,true,true,true,true,true,true] [] [] [] rfl (by kernel_rfl) (by kernel_rfl) (by kernel_rfl) d4 (λvs hv hB=>?_);obtain⟨w0,Ws,rfl,VY⟩:=aE hv;obtain⟨w1,Wq,rfl,VX⟩:=aE VY;obtain⟨w2,Wp,rfl,VV⟩:=aE VX;obtain⟨w3,Wn,rfl,VU⟩:=aE VV;obtain⟨w4,Wm,rfl,VT⟩:=aE VU;obtain⟨w5,Wj,rfl,VS⟩:=aE VT;obtain⟨w6,Wi,rfl,VQ⟩:=aE VS;obtain⟨w7,Wh,rfl,VP⟩:=aE VQ;obtain⟨w8,Wg,rfl,VO⟩:=aE VP;obtain⟨w9,V6,rfl,gw⟩:=aE VO;obtain⟨We,V5,rfl,Y⟩:=aE gw;obtain⟨Wc,V4,rfl,X⟩:=aE Y;obtain⟨Wb,V3,rfl,U⟩:=aE X;obtain⟨Wa,V2,rfl,Q⟩:=aE U;obtain rfl:=rI Q;obtain⟨E,rfl⟩:=O4 hB.2.2.2.2.2.2.2.2.2.2.2.2.2.1;refine⟨[0,1,2,3,4,5],[.obj c 94 (aW a0 z_a0),.obj b1 108 (.agg (.pair (I y6.1) (I y6.2.1))),.obj b5 108 (.agg (.pair (I (-1:Int)) (I 0))),.inv z_a0 (cj k a0),.inv z4 (t3 y6.2.2),.obj E 108 (.agg (.pair (I 0) (I 0)))],by kernel_rfl,by decide,?_⟩;refine rX 5 rfl ?_;refine tH rfl rfl (aM rfl jL trivial rfl rfl) ⟨rfl,rfl,trivial⟩ (by kernel_rfl) ?_;refine yR ?_;refine bK (SE.fin (Γ':=[(0,Pt c),(5,Pt b1),(7,.at (.arr 7 Tr) r2),(8,.eq (.map (some z4))),(9,Pt b5),(11,Pt E)]) (Δ':=[.obj E 108 (.agg (.pair (I j) (I u))),.obj c 94 (aW a0 z_a0),.obj b1 108 (.agg (.pair (I y6.1) (I y6.2.1))),.obj b5 108 (.agg (.pair (I (-1:Int)) (I 0))),.inv z_a0 (cj k a0),.inv z4 (t3 y6.2.2)]) [0,1,2,3,4,5] ⟨rfl,rfl,rfl,rfl,rfl,rfl,trivial⟩ rfl) ?_;refine tn (sr (mq ?_));refine fr 2 ?_;refine lo jL ?_;refine fr 1 ?_;refine lo jL ?_;refine dM (fq (t:=bX) (x:=(y6.1,y6.2.1)) 53 rfl (.agg (.pair .int .int)) trivial rfl) ?_;obtain⟨Wt,VH,h⟩:=aa h;refine dM (fq (t:=bX) (x:=(j,u)) 54 rfl (.agg (.pair .int .int)) trivial rfl) ?_;refine fr 5 ?_;refine aP rfl rfl (rm (K:=lg) (V:=lg) (t:=(y6.1,y6.2.1)) (n:=(j,u)) (l:=y6.2.2) (λ_ _ _ h=>nq h) rfl Gg mO (λ_ _ _ h=>nq h) (qV (au VH)) (qU _) qW) ⟨rfl,rfl,rfl,trivial⟩ ?_
    refine nt (ab (fr 1 ?_));refine lo jL ?_;refine fr 2 ?_;refine aP rfl rfl (aM rfl jL trivial rfl rfl) ⟨rfl,rfl,trivial⟩ ?_;refine aD (bn ?_);exact jz ((),(j,u,Cj y6.2.2 (y6.1,y6.2.1) (j,u))) h [3,0,4,5,2]
 .
  refine ao ?_;exact jz ((),(x8.1,x8.2.1,x8.2.2)) h [0,1,2,3,4]
def kM(k:Nat)(r7:(List (fK×fK))):Nat->(Int×Int×(List Int))->Option (List Int)
 |0,_=>none
 |n+1,c=>
  (cM (zx (c.1,c.2.1))).bind λ_=>
  if¬((nF r7 (c.1,c.2.1) (0,0))=((-1:Int),0)) then((cM (zx (c.1,c.2.1))).bind λ_=>
  (cM (bN (length c.2.2+length [(nF r7 (c.1,c.2.1) (0,0)).1]))).bind λ_=>
  (cM (zx (c.1,c.2.1))).bind λ_=>
  kM k r7 n ((nF r7 (c.1,c.2.1) (0,0)).1,(nF r7 (c.1,c.2.1) (0,0)).2,c.2.2++[(nF r7 (c.1,c.2.1) (0,0)).1])) else(some c.2.2)
def sV(k:Nat)(a0:ae)(a1:(List Int))(a2:Int):Option ((List Int)×Int):=
 (jQ k a0 a1 [a2] ([]:(List Int)) ([]:(List Int))).bind λr2=>
 gI r2.1 (if¬(r2.2.2=0) then(some (([]:(List Int)),r2.2.2)) else(none)) (λq3=>if¬(r2.2.2=0) then(some (([]:(List Int)),r2.2.2)) else((iE k q3 r2.2.1 a2).bind λr5=>
 if r5 < 0 then(some (([]:(List Int)),11)) else((lA k q3 r2.2.1 (a2,r5)).bind λr7=>
 ((kM k r7 k (a2,r5,[a2])):Option ((List Int))).bind λc=>
 (kj k c).bind λe=>
 some (e,0))))
theorem yl(k:Nat)(a0:ae)(a1:(List Int))(a2:Int)(r:(List Int)×Int)(h:sV k a0 a1 a2=some r):
 cz (ec Tryz.prog) 26 [.rep ap a0,.rep Tl a1,I a2] [] (λ_:Unit=>(bO [.rep Tl r.1,I r.2],[])):=by
 unfold sV at h
 replace h:=bp h
 refine cz.of 64 Tryz.func26 rfl Tryz.ntmps26 rfl λS w0=>?_
 refine sr ?_
 refine bx λb1=>?_
 refine cq ?_
 refine cq ?_
 refine nt ?_
 refine sr ?_
 refine lo gC ?_
 iterate 2 refine mq ?_
 refine ja (bf (t:=Ti) [(.tmp 19,_)] [a2] rfl rfl dX (.cons rfl .int .nil) rfl rfl) ?_
 obtain⟨r2,Y,h⟩:=aa h
 have u:=l6 k a0 a1 [a2] ([]:(List Int)) ([]:(List Int)) r2 Y
 rcases hr:r2.1 with _ |q3
 .
  rw [hr] at h u;replace h:=wv h;refine aO (Δ:=[]) (F:=_) (λ_ _ _=>ag rfl _) rfl rfl (cf (N:=[(.tmp 17,.rep ap a0),(.tmp 18,.rep Tl a1),(.tmp 20,.rep Tl [a2]),(.const (.slice none 0 0),.eq (.slice none 0 0)),(.const (.slice none 0 0),.eq (.slice none 0 0))]) (aZ [.tmp 17,.tmp 18,.tmp 20,.const (.slice none 0 0),.const (.slice none 0 0)] rfl rfl Az rfl u) λ_ _ _ hn=>⟨hn.1,hn.2.1,hn.2.2.1,(aK (t:=Tl) (x:=([]:(List Int))) .nil rfl rfl hn.2.2.2.1),(aK (t:=Tl) (x:=([]:(List Int))) .nil rfl rfl hn.2.2.2.2.1),trivial⟩) ⟨rfl,rfl,rfl,rfl,rfl,trivial⟩ λ_=>?_;refine mq ?_;refine xr ?_;refine xr ?_;refine xr ?_;refine aq ?_;refine aq ?_;refine aq (nt (am (sr ?_)));refine mq ?_;refine jb (eX rfl) ?_;refine nt (cn h (λh=>?_) (λh=>?_))
  .refine sr (mq ?_);refine cq ?_;refine aq (nt (rx ?_));refine bK (fq (t:=Tl) (x:=([]:(List Int))) 6 rfl .nil rfl rfl) ?_;cases h;exact rb
  .cases h
 .
  rw [hr] at h u;replace h:=wu h;refine aO (Δ:=[]) (F:=_) (λ_ _ _=>ag rfl _) rfl rfl (cf (N:=[(.tmp 17,.rep ap a0),(.tmp 18,.rep Tl a1),(.tmp 20,.rep Tl [a2]),(.const (.slice none 0 0),.eq (.slice none 0 0)),(.const (.slice none 0 0),.eq (.slice none 0 0))]) (aZ [.tmp 17,.tmp 18,.tmp 20,.const (.slice none 0 0),.const (.slice none 0 0)] rfl rfl Az rfl u) λ_ _ _ hn=>⟨hn.1,hn.2.1,hn.2.2.1,(aK (t:=Tl) (x:=([]:(List Int))) .nil rfl rfl hn.2.2.2.1),(aK (t:=Tl) (x:=([]:(List Int))) .nil rfl rfl hn.2.2.2.2.1),trivial⟩) ⟨rfl,rfl,rfl,rfl,rfl,trivial⟩ λz4=>?_;refine mq ?_;refine xr ?_;refine xr ?_;refine xr ?_;refine aq ?_;refine aq ?_;refine aq (nt (am (sr ?_)));refine mq ?_;refine jb (eX rfl) ?_;refine nt (cn h (λh=>?_) (λh=>?_))
  .refine sr (mq ?_);refine cq ?_;refine aq (nt (rx ?_));refine bK (fq (t:=Tl) (x:=([]:(List Int))) 6 rfl .nil rfl rfl) ?_;cases h;exact rb
  .refine sk (sr ?_);iterate 3 refine mq ?_
   obtain⟨r5,X,h⟩:=aa h;refine fr 1 ?_;refine fr 1 ?_;refine aO (Δ:=[_,_]) (F:=_) (λ_ _ _=>ag rfl _) rfl rfl (aZ [.tmp 28,.tmp 29,.tmp 30] rfl rfl R7 rfl (ly k q3 z4.1 z4.2 r2.2.1 a2 r5 X)) ⟨rfl,rfl,rfl,trivial⟩ λ_=>?_;refine aq (nt (am (sr ?_)));refine mq ?_;refine jb (bG rfl) ?_;refine nt (ci h (λh=>?_) (λh=>?_))
   .refine sr (cq ?_);refine cq (nt (rx ?_));refine bK (fq (t:=Tl) (x:=([]:(List Int))) 6 rfl .nil rfl rfl) ?_;cases h;exact rb
   .refine sk (sr ?_);iterate 2 refine mq ?_
    refine jb (eo [(0,.tmp 34,_),(1,.tmp 35,_)] rfl HS tK Dc (jM ⟨rfl,rfl,trivial⟩) rfl) ?_;refine aX rfl rfl rfl (bo rfl tK AX) trivial λb6=>?_;refine aP rfl rfl (aM rfl jL trivial rfl rfl) ⟨rfl,rfl,trivial⟩ ?_;refine nt (sr ?_);iterate 2 refine mq ?_
    refine lo jL ?_;obtain⟨r7,U,h⟩:=aa h;refine fr 2 ?_;refine fr 2 ?_;refine aO (Δ:=[_,_]) (F:=_) (λ_ _ _=>ag rfl _) rfl rfl (cf (N:=[(.tmp 37,.eq (.pointer (some ⟨z4.1,0,none⟩))),(.tmp 38,.eq (.int .u8 r2.2.1)),(.tmp 39,.agg (.pair (I a2) (I r5)))]) (aZ [.tmp 37,.tmp 38,.tmp 39] rfl rfl UB rfl (rF k q3 z4.1 z4.2 r2.2.1 (a2,r5) r7 U)) λ_ _ _ hn=>⟨hn.1,hn.2.1,(aK (t:=bX) (x:=(a2,r5)) (.agg (.pair .int .int)) trivial rfl hn.2.2.1),trivial⟩) ⟨rfl,rfl,rfl,trivial⟩ λz8=>?_;refine aq (nt (sr ?_));refine mq ?_;refine aX rfl rfl rfl (lu (t:=Ti) [(.tmp 41,_)] [a2] rfl rfl dX (.cons rfl .int .nil) rfl rfl) ⟨rfl,trivial⟩ λv9=>?_;refine aq (nt ?_);refine aJ (Z:=Value) (α:=(List Int)) (λj s=>[(13,.eq (.map (some z8))),(14,.eq j)]) (λj s=>[.sl j 3 Ti s,.inv z4.2 (cj k q3),.inv z8 (t3 r7)]) h (λK h=>?_) (λj s h=>?_)
    .refine sr (ja (eo [(0,.const (.int .i64 (-1)),_)] rfl HS tK Dc (jM ⟨rfl,trivial⟩) rfl) ?_);refine aX rfl rfl rfl (bo rfl tK AX) trivial λmc=>?_;refine aP rfl rfl (aM rfl jL trivial rfl rfl) ⟨rfl,rfl,trivial⟩ ?_;refine nt (ak (aH (λe c=>[(12,Pt b6),(13,.eq (.map (some z8))),(14,.eq e.1),(15,.eq (.pointer (some ⟨e.2,0,none⟩)))]) (λe c=>[.obj b6 108 (.agg (.pair (I c.1) (I c.2.1))),.sl e.1 3 Ti c.2.2,.obj e.2 108 (.agg (.pair (I (-1:Int)) (I 0))),.inv z4.2 (cj k q3),.inv z8 (t3 r7)]) (kM k r7) k (v9,mc) (a2,r5,[a2]) (λ_=>rfl) h (SE.fin [5,1,0,4,2] ⟨rfl,rfl,rfl,rfl,trivial⟩ rfl) (λn e c h=>?_)));unfold kM at h;refine am (am (cN ?_));refine dm ?_;refine ea 0 (ax rfl jL (tP) rfl) ?_;obtain⟨qt,J,h⟩:=aa h;refine eb 4 (cf (N:=[(.tmp 44,.eq (.map (some z8))),(.tmp 45,.agg (.pair (I c.1) (I c.2.1)))]) (sH (K:=lg) (V:=lg) (t:=(c.1,c.2.1)) (l:=r7) (λn=>.rep bX n) uw rfl Gg (0,0) uv mO (λ_ _ _ h=>nq h) (qV (au J)) (qU _) qW) λ_ _ _ hn=>⟨hn.1,(aK (t:=bX) (x:=(c.1,c.2.1)) (.agg (.pair .int .int)) trivial rfl hn.2.1),trivial⟩) ?_;refine ea 2 (ax rfl jL (tP) rfl) ?_;refine df d4 ?_;refine dM (fq (t:=bX) (x:=((-1:Int),0)) 47 rfl (.agg (.pair .int .int)) trivial rfl) ?_;refine jb (Pe rfl RQ rfl) ?_;refine nt (cn h (λh=>?_) (λh=>?_))
     .refine sk (am (ak (ab ?_)));iterate 2 refine mq ?_
      refine lo jL ?_;refine dM (fq (t:=bX) (x:=(c.1,c.2.1)) 54 rfl (.agg (.pair .int .int)) trivial rfl) ?_;obtain⟨u16,E,h⟩:=aa h;refine fr 4 ?_;refine kb (cf (N:=[(.tmp 53,.eq (.map (some z8))),(.tmp 54,.rep bX (c.1,c.2.1))]) (sH (K:=lg) (V:=lg) (t:=(c.1,c.2.1)) (l:=r7) (λn=>.rep bX n) uw rfl Gg (0,0) uv mO (λ_ _ _ h=>nq h) (qV (au E)) (qU _) qW) λ_ _ _ hn=>⟨hn.1,hn.2.1,trivial⟩) ?_;refine ja (Lj rfl UW rfl cL (λ_=>rfl) rfl rfl rfl) ?_;refine ja (bf (t:=Ti) [(.tmp 56,_)] [(nF r7 (c.1,c.2.1) (0,0)).1] rfl rfl dX (.cons rfl .int .nil) rfl rfl) ?_;obtain⟨mw,D,h⟩:=aa h;refine fr 2 ?_;refine dZ rfl rfl rfl (cu rfl rfl dX (au D)) ⟨rfl,rfl,trivial⟩ λO=>?_;refine aq (aD (aR (tn (am (sr ?_)))));refine fr 3 ?_;refine lo jL ?_;refine nt (ab (aX rfl rfl rfl (bo rfl tK AX) trivial λgw=>?_));refine aP rfl rfl (aM rfl jL trivial rfl rfl) ⟨rfl,rfl,trivial⟩ ?_;refine nt (ab (mq ?_));refine fr 4 ?_;refine lo jL ?_;refine dM (fq (t:=bX) (x:=(c.1,c.2.1)) 50 rfl (.agg (.pair .int .int)) trivial rfl) ?_;obtain⟨mt,y,h⟩:=aa h;refine fr 4 ?_;refine kb (cf (N:=[(.tmp 49,.eq (.map (some z8))),(.tmp 50,.rep bX (c.1,c.2.1))]) (sH (K:=lg) (V:=lg) (t:=(c.1,c.2.1)) (l:=r7) (λn=>.rep bX n) uw rfl Gg (0,0) uv mO (λ_ _ _ h=>nq h) (qV (au y)) (qU _) qW) λ_ _ _ hn=>⟨hn.1,hn.2.1,trivial⟩) ?_;refine fr 1 ?_;refine aP rfl rfl (aM rfl jL rfl rfl rfl) ⟨rfl,rfl,trivial⟩ ?_;refine nl (bK (ib (a:=.rep bX (nF r7 (c.1,c.2.1) (0,0))) (a':=.agg (.pair (I ((nF r7 (c.1,c.2.1) (0,0)).1)) (I ((nF r7 (c.1,c.2.1) (0,0)).2)))) (AE.trans EX (AE.agg (AE.trans Bh (AE.pair AE.int AE.int))))) ?_);exact jz ((O,gw),((nF r7 (c.1,c.2.1) (0,0)).1,(nF r7 (c.1,c.2.1) (0,0)).2,c.2.2++[(nF r7 (c.1,c.2.1) (0,0)).1])) h [0,4,2,5,1]
     .refine xa ?_;exact jz (e.1,c.2.2) h [1,3,4]
    .refine sr (mq ?_);refine fr 2 ?_;refine aP rfl rfl (Ib rfl rfl Gg) ⟨rfl,trivial⟩ ?_;refine nt (sr (mq ?_));obtain⟨Q,M,h⟩:=aa h;refine fr 1 ?_;refine ka (aC [.tmp 61] rfl rfl UA rfl (qf k s j Q M)) ?_;refine nt (sr (mq ?_));refine aq ?_;refine cq (nt (aF ?_));refine bK (jk [6,14,61,63] ⟨rfl,rfl,rfl,rfl,trivial⟩) ?_;cases h;exact rb
def l7(k:Nat)(a0:ae)(a1:Int)(r2:(Option ae)×(List Int)×Int)(q3:ae)(y7:(List Int)×Int):Nat->(Int×Int)->Option Int
 |0,_=>none
 |n+1,c=>
  if c.2 < (r2.2.1.length:Int) then((((aG r2.2.1 c.2).bind λr=>
  (lQ k q3 r).bind λu=>
  (aG u a1).bind λl=>
  (aG l y7.2).bind λj=>
  if a0.2.2.1≤j then((ck (c.1+1)).bind λh=>
  some h) else(some c.1)):Option (Int)).bind λs=>
  (ck (c.2+1)).bind λe=>
  l7 k a0 a1 r2 q3 y7 n (s,e)) else(some c.1)
def l8(k:Nat)(a0:ae)(a1:Int)(r2:(Option ae)×(List Int)×Int)(q3:ae):Nat->((List Int)×Int)->Option (List Int)
 |0,_=>none
 |n+1,y7=>
  if y7.2 < a0.1 then(((((l7 k a0 a1 r2 q3 y7 k (0,0)):Option (Int)).bind λc=>
  (ck ((r2.2.1.length:Int) - c)).bind λe=>
  (cM (bN (length y7.1+length [td c e]))).bind λ_=>
  some (y7.1++[td c e])):Option ((List Int))).bind λx9=>
  (ck (y7.2+1)).bind λh=>
  l8 k a0 a1 r2 q3 n (x9,h)) else(some y7.1)
def uX(k:Nat)(a0:ae)(a1:Int):Option (Int×Int×Int):=
 (mY k a0 ([]:(List Int)) ([]:(List Int)) [a1]).bind λr2=>
 gI r2.1 (if¬(r2.2.2=0) then(some (0,0,r2.2.2)) else(none)) (λq3=>if¬(r2.2.2=0) then(some (0,0,r2.2.2)) else(((l8 k a0 a1 r2 q3 k (([]:(List Int)),0)):Option ((List Int))).bind λx5=>
 (lU k x5).bind λc=>
 if(r2.2.1.length:Int)≤c then(some (0,0,11)) else((gu k x5 c).bind λe=>
 some (e,c,0))))
theorem Aa(k:Nat)(a0:ae)(a1:Int)(r:Int×Int×Int)(h:uX k a0 a1=some r):
 cz (ec Tryz.prog) 27 [.rep ap a0,I a1] [] (λ_:Unit=>(bO [I r.1,I r.2.1,I r.2.2],[])):=by
 unfold uX at h
 replace h:=bp h
 refine cz.of 71 Tryz.func27 rfl Tryz.ntmps27 rfl λS w0=>?_
 refine sr ?_
 refine bx λb1=>?_
 refine cq ?_
 refine cq ?_
 refine cq ?_
 refine nt ?_
 refine sr ?_
 refine lo gC ?_
 refine mq ?_
 refine ja (bf (t:=Ti) [(.tmp 18,_)] [a1] rfl rfl dX (.cons rfl .int .nil) rfl rfl) ?_
 obtain⟨r2,VK,h⟩:=aa h
 have s:=nB k a0 ([]:(List Int)) ([]:(List Int)) [a1] r2 VK
 rcases hr:r2.1 with _ |q3
 .
  rw [hr] at h s;replace h:=wv h;refine aO (Δ:=[]) (F:=_) (λ_ _ _=>ag rfl _) rfl rfl (cf (N:=[(.tmp 17,.rep ap a0),(.const (.slice none 0 0),.eq (.slice none 0 0)),(.const (.slice none 0 0),.eq (.slice none 0 0)),(.tmp 19,.rep Tl [a1])]) (aZ [.tmp 17,.const (.slice none 0 0),.const (.slice none 0 0),.tmp 19] rfl rfl FM rfl s) λ_ _ _ hn=>⟨hn.1,(aK (t:=Tl) (x:=([]:(List Int))) .nil rfl rfl hn.2.1),(aK (t:=Tl) (x:=([]:(List Int))) .nil rfl rfl hn.2.2.1),hn.2.2.2.1,trivial⟩) ⟨rfl,rfl,rfl,rfl,trivial⟩ λ_=>?_;refine mq ?_;refine xr ?_;refine xr ?_;refine xr ?_;refine aq ?_;refine aq ?_;refine aq (nt (am (sr ?_)));refine mq ?_;refine jb (eX rfl) ?_;refine nt (cn h (λh=>?_) (λh=>?_))
  .refine sr (mq ?_);refine cq ?_;refine cq ?_;refine aq (nt (rx ?_));cases h;exact aQ () [_,_,_] 0 ⟨rfl,rfl,rfl,trivial⟩ rfl
  .cases h
 .
  rw [hr] at h s;replace h:=wu h;refine aO (Δ:=[]) (F:=_) (λ_ _ _=>ag rfl _) rfl rfl (cf (N:=[(.tmp 17,.rep ap a0),(.const (.slice none 0 0),.eq (.slice none 0 0)),(.const (.slice none 0 0),.eq (.slice none 0 0)),(.tmp 19,.rep Tl [a1])]) (aZ [.tmp 17,.const (.slice none 0 0),.const (.slice none 0 0),.tmp 19] rfl rfl FM rfl s) λ_ _ _ hn=>⟨hn.1,(aK (t:=Tl) (x:=([]:(List Int))) .nil rfl rfl hn.2.1),(aK (t:=Tl) (x:=([]:(List Int))) .nil rfl rfl hn.2.2.1),hn.2.2.2.1,trivial⟩) ⟨rfl,rfl,rfl,rfl,trivial⟩ λz4=>?_;refine mq ?_;refine xr ?_;refine xr ?_;refine xr ?_;refine aq ?_;refine aq ?_;refine aq (nt (am (sr ?_)));refine mq ?_;refine jb (eX rfl) ?_;refine nt (cn h (λh=>?_) (λh=>?_))
  .refine sr (mq ?_);refine cq ?_;refine cq ?_;refine aq (nt (rx ?_));cases h;exact aQ () [_,_,_] 0 ⟨rfl,rfl,rfl,trivial⟩ rfl
  .refine sk (sr (cq (nt ?_)));refine aJ (Z:=Value) (α:=(List Int)) (λz6 x5=>[(8,.rep (.slice (.int .u8)) r2.2.1),(10,.eq z6)]) (λz6 x5=>[.sl z6 3 Ti x5,.inv z4.2 (cj k q3)]) h (λK h=>?_) (λz6 x5 h=>?_)
   .refine sr (fl ge ?_);refine fr 2 ?_;refine lo cL ?_;refine fy rfl ?_;refine nt (ak (fL (SE.nil 3 Ti) ?_));refine aH (λz8 y7=>[(1,I a1),(2,Pt b1),(7,.eq (.pointer (some ⟨z4.1,0,none⟩))),(8,.rep (.slice (.int .u8)) r2.2.1),(10,.eq z8),(28,I a0.1),(29,I y7.2)]) (λz8 y7=>[.obj b1 28 (.rep ap a0),.obj z4.1 94 (aW q3 z4.2),.sl z8 3 Ti y7.1,.inv z4.2 (cj k q3)]) (l8 k a0 a1 r2 q3) k (.slice none 0 0) (([]:(List Int)),0) (λ_=>rfl) h (SE.fin [1,2,0,3] ⟨rfl,rfl,rfl,rfl,rfl,rfl,rfl,trivial⟩ rfl) (λn z8 y7 h=>?_);unfold l8 at h;refine sr (jb (bG rfl) ?_);refine nt (am (ci h (λh=>?_) (λh=>?_)))
    .refine sk (aJ (Z:=Value) (α:=(List Int)) (λe x9=>[(1,I a1),(2,Pt b1),(7,.eq (.pointer (some ⟨z4.1,0,none⟩))),(8,.rep (.slice (.int .u8)) r2.2.1),(10,.eq e),(28,I a0.1),(29,I y7.2)]) (λe x9=>[.obj b1 28 (.rep ap a0),.obj z4.1 94 (aW q3 z4.2),.sl e 3 Ti x9,.inv z4.2 (cj k q3)]) h (λK h=>?_) (λe x9 h=>?_))
     .refine ak (sr (mq ?_));refine aq (nt (sr ?_));refine cq (nt ?_);refine aJ (Z:=Unit) (α:=Int) (λE j=>[(1,I a1),(2,Pt b1),(7,.eq (.pointer (some ⟨z4.1,0,none⟩))),(8,.rep (.slice (.int .u8)) r2.2.1),(10,.eq z8),(12,I j),(28,I a0.1),(29,I y7.2)]) (λE j=>[.obj b1 28 (.rep ap a0),.obj z4.1 94 (aW q3 z4.2),.sl z8 3 Ti y7.1,.inv z4.2 (cj k q3)]) h (λK h=>?_) (λE j h=>?_)
      .refine sr (mq ?_);refine ol Bq ?_;refine fy rfl ?_;refine nt (ak (aH (λD c=>[(1,I a1),(2,Pt b1),(7,.eq (.pointer (some ⟨z4.1,0,none⟩))),(8,.rep (.slice (.int .u8)) r2.2.1),(10,.eq z8),(11,I y7.2),(12,I c.1),(28,I a0.1),(29,I y7.2),(32,.rep (.slice (.int .u8)) r2.2.1),(33,I (r2.2.1.length:Int)),(34,I c.2)]) (λD c=>[.obj b1 28 (.rep ap a0),.obj z4.1 94 (aW q3 z4.2),.sl z8 3 Ti y7.1,.inv z4.2 (cj k q3)]) (l7 k a0 a1 r2 q3 y7) k () (0,0) (λ_=>rfl) h (SE.fin [0,1,2,3] ⟨rfl,rfl,rfl,rfl,rfl,rfl,rfl,rfl,rfl,rfl,rfl,rfl,trivial⟩ rfl) (λn D c h=>?_)));unfold l7 at h;refine sr (jb (bG rfl) ?_);refine nt (am (ci h (λh=>?_) (λh=>?_)))
       .refine sk (aJ (Z:=Unit) (α:=Int) (λy l=>[(1,I a1),(2,Pt b1),(7,.eq (.pointer (some ⟨z4.1,0,none⟩))),(8,.rep (.slice (.int .u8)) r2.2.1),(10,.eq z8),(11,I y7.2),(12,I l),(28,I a0.1),(29,I y7.2),(32,.rep (.slice (.int .u8)) r2.2.1),(33,I (r2.2.1.length:Int)),(34,I c.2)]) (λy l=>[.obj b1 28 (.rep ap a0),.obj z4.1 94 (aW q3 z4.2),.sl z8 3 Ti y7.1,.inv z4.2 (cj k q3)]) h (λK h=>?_) (λy l h=>?_))
        .refine ak (sr ?_);obtain⟨VG,gw,h⟩:=aa h;refine jb (aU (t:=(.int .u8)) rfl Bq qc gw) ?_;refine ja (ay (t:=(.int .u8)) rfl qc rfl) ?_;refine aq (nt (am ?_));refine cN ?_;refine dm ?_;refine dm ?_;obtain⟨VJ,qt,h⟩:=aa h;refine Qx 1 3 rfl rfl (by kernel_rfl) rfl rfl rfl (aZ [.tmp 38,.tmp 39] rfl rfl FO rfl (pz k q3 z4.1 z4.2 VG VJ qt)) ⟨rfl,rfl,trivial⟩ ?_;refine dm ?_;obtain⟨VM,Y,h⟩:=aa h;refine db (oD (t:=Tr) rfl Kp jm rfl rfl (tP) Y) ?_;refine dm ?_;obtain⟨VL,X,h⟩:=aa h;refine db (oD (t:=Ti) rfl Dj cL rfl rfl (λ_=>rfl) X) ?_;refine da (aA rfl CN) ?_;refine ea 0 (ax rfl cL nY rfl) ?_;refine df d4 ?_;refine jb (kC rfl) ?_;refine nt (ci h (λh=>?_) (λh=>?_))
         .refine ab (mq ?_);obtain⟨VF,U,h⟩:=aa h;refine jb (bA rfl U) ?_;refine aq (aD (bn ?_));exact jz ((),VF) h [0,1,2,3]
         .refine bj (bn ?_);exact jz ((),c.1) h [0,1,2,3]
        .refine ab ?_;obtain⟨VE,Q,h⟩:=aa h;refine jb (bA rfl Q) ?_;refine mq (nl ?_);exact jz ((),(l,VE)) h [0,1,2,3]
       .refine xa ?_;exact jz ((),c.1) h [0,1,2,3]
      .refine ab ?_;iterate 3 refine mq ?_
       refine ol Bq ?_;refine mq ?_;obtain⟨J,O,h⟩:=aa h;refine jb (eA rfl O) ?_;refine jb (H6 rfl rfl) ?_;refine ja (bf (t:=Ti) [(.tmp 57,_)] [td j J] rfl rfl dX (.cons rfl .int .nil) rfl rfl) ?_;obtain⟨VN,mc,h⟩:=aa h;refine fr 2 ?_;refine dZ rfl rfl rfl (cu rfl rfl dX (au mc)) ⟨rfl,rfl,trivial⟩ λVH=>?_;refine aq (aD (bn ?_));exact jz (VH,y7.1++[td j J]) h [1,2,0,3]
     .refine ab ?_;obtain⟨zz,M,h⟩:=aa h;refine jb (bA rfl M) ?_;refine mq (nl ?_);exact jz (e,(x9,zz)) h [0,1,2,3]
    .refine xa ?_;exact jz (z8,y7.1) h [2,3]
   .refine sr (mq ?_);obtain⟨u,mw,h⟩:=aa h;refine ka (lJ (N:=[(.tmp 61,.eq z6)]) (aC [.tmp 61] rfl rfl R2 rfl (ot k x5 u mw)) (λ_ _ _ hv hn=>⟨(lend hn.1 hv),trivial⟩) (λ_=>⟨rfl,oR⟩)) ?_;refine aq (nt (am (sr ?_)));iterate 2 refine mq ?_
    refine ol Bq ?_;refine jb (kC rfl) ?_;refine nt (ci h (λh=>?_) (λh=>?_))
    .refine sr (cq ?_);refine cq ?_;refine cq (nt (rx ?_));cases h;exact aQ () [_,_,_] 0 ⟨rfl,rfl,rfl,trivial⟩ rfl
    .refine sk (sr ?_);iterate 2 refine mq ?_
     obtain⟨VI,mt,h⟩:=aa h;refine kb (lJ (N:=[(.tmp 67,.eq z6),(.tmp 68,I u)]) (aC [.tmp 67,.tmp 68] rfl rfl RZ rfl (mR k x5 u VI mt)) (λ_ _ _ hv hn=>⟨(lend hn.1 hv),hn.2.1,trivial⟩) (λ_=>⟨rfl,oR⟩)) ?_;refine mq ?_;refine aq ?_;refine aq ?_;refine cq (nt (aF ?_));cases h;exact aQ () [_,_,_] 0 ⟨rfl,rfl,rfl,trivial⟩ rfl
def jG(k:Nat)(a1:Int)(a2:Int)(y4:(List (List (List Int)))×Int)(h:(List Int)):Nat->((List Int)×Int)->Option (List Int)
 |0,_=>none
 |n+1,c=>
  if c.2 < (h.length:Int) then((((aG h c.2).bind λe=>
  ((if y4.2 < a1 then(some true) else((eZ k a2 e).bind λs=>
  some (!s))):Option (Bool)).bind λl=>
  if l=true then((cM (bN (length c.1+length [e]))).bind λ_=>
  some (c.1++[e])) else(some c.1)):Option ((List Int))).bind λr=>
  (ck (c.2+1)).bind λj=>
  jG k a1 a2 y4 h n (r,j)) else(some c.1)
def jH(k:Nat)(a1:Int)(a2:Int)(y4:(List (List (List Int)))×Int)(x8:(List (List Int))):Nat->((List (List Int))×Int)->Option (List (List Int))
 |0,_=>none
 |n+1,c=>
  if c.2 < (x8.length:Int) then((((aG x8 c.2).bind λj=>
  ((jG k a1 a2 y4 j k (([]:(List Int)),0)):Option ((List Int))).bind λe=>
  (cM (bN (length c.1+length [e]))).bind λ_=>
  some (c.1++[e])):Option ((List (List Int)))).bind λl=>
  (ck (c.2+1)).bind λh=>
  jH k a1 a2 y4 x8 n (l,h)) else(some c.1)
def jI(k:Nat)(a0:ae)(a1:Int)(a2:Int):Nat->((List (List (List Int)))×Int)->Option (List (List (List Int)))
 |0,_=>none
 |n+1,y4=>
  if y4.2 < (a0.2.2.2.2.1.length:Int) then((((aG a0.2.2.2.2.1 y4.2).bind λx8=>
  ((jH k a1 a2 y4 x8 k (([]:(List (List Int))),0)):Option ((List (List Int)))).bind λx9=>
  (cM (bN (length y4.1+length [x9]))).bind λ_=>
  some (y4.1++[x9])):Option ((List (List (List Int))))).bind λx6=>
  (ck (y4.2+1)).bind λc=>
  jI k a0 a1 a2 n (x6,c)) else(some y4.1)
def nC(k:Nat)(a0:ae)(a1:Int)(a2:Int):Option (Option ae):=
 ((jI k a0 a1 a2 k (([]:(List (List (List Int)))),0)):Option ((List (List (List Int))))).bind λx2=>
 (i8 k (a0.1,a0.2.1,a0.2.2.1,a0.2.2.2.1,x2,a0.2.2.2.2.2)).bind λc=>
 gI c (some none) (λe=>some (some e))
theorem wi(k:Nat)(a0:ae)(a1:Int)(a2:Int)(r:(Option ae))(h:nC k a0 a1 a2=some r):
 dG Tryz.prog 56 [.rep ap a0,I a1,.eq (.int .u8 a2)] [] (λz:Nat×Nat=>(bO [K8 r z.1],K7 r λq=>qQ q z.1 z.2 k)):=by
 unfold nC at h
 replace h:=bp h
 refine dG.of 69 Tryz.func56 rfl Tryz.ntmps56 rfl λS w0=>?_
 refine sr ?_
 refine bx λb1=>?_
 refine cq ?_
 refine nt ?_
 refine sr ?_
 refine fl cS ?_
 refine lo gG ?_
 refine mq ?_
 refine ja (sG [.tmp 19] [] [(.int .u8 a2)] [] rfl rfl rfl) ?_
 refine aq ?_
 refine aq ?_
 refine nt ?_
 refine sr ?_
 refine fl cS ?_
 refine aP rfl rfl (aM rfl gG rfl rfl rfl) ⟨rfl,rfl,trivial⟩ ?_
 refine nt ?_
 refine aJ (Z:=Value) (α:=(List (List (List Int)))) (λz3 x2=>[(3,Pt b1)]) (λz3 x2=>[.obj b1 28 (.agg (.pair (I a0.1) (.pair (I a0.2.1) (.pair (I a0.2.2.1) (.pair (I a0.2.2.2.1) (.pair (.eq z3) (Rs ah a0.2.2.2.2.2))))))),.sl z3 33 (.slice Tl) x2]) h (λK h=>?_) (λz3 x2 h=>?_)
 .
  refine sr (mq ?_);refine ol xw ?_;refine fy rfl ?_;refine nt (ak (fL (SE.nil 33 (.slice Tl)) ?_));refine dE 1 rfl ?_;refine fL (ib (a:=.agg (.pair (.rep Ti a0.1) (.pair (.rep Ti a0.2.1) (.pair (.rep Ti a0.2.2.1) (.pair (.rep Ti a0.2.2.2.1) (.pair (.eq (.slice none 0 0)) (Rs ah a0.2.2.2.2.2))))))) (a':=.agg (.pair (I a0.1) (.pair (I a0.2.1) (.pair (I a0.2.2.1) (.pair (I a0.2.2.2.1) (.pair (.eq (.slice none 0 0)) (Rs ah a0.2.2.2.2.2))))))) (AE.agg (AE.pair AE.int (AE.pair AE.int (AE.pair AE.int (AE.pair AE.int AE.rfl)))))) ?_;refine aH (λz5 y4=>[(1,I a1),(3,Pt b1),(8,.eq (.func (.func 47) #[(.int .u8 a2)] #[])),(22,.rep (.slice (.slice Tl)) a0.2.2.2.2.1),(23,I (a0.2.2.2.2.1.length:Int)),(24,I y4.2)]) (λz5 y4=>[.obj b1 28 (.agg (.pair (I a0.1) (.pair (I a0.2.1) (.pair (I a0.2.2.1) (.pair (I a0.2.2.2.1) (.pair (.eq z5) (Rs ah a0.2.2.2.2.2))))))),.sl z5 33 (.slice Tl) y4.1]) (jI k a0 a1 a2) k (.slice none 0 0) (([]:(List (List (List Int)))),0) (λ_=>rfl) h (SE.fin [0,1] ⟨rfl,rfl,rfl,rfl,rfl,rfl,trivial⟩ rfl) (λn z5 y4 h=>?_);unfold jI at h;refine sr (jb (bG rfl) ?_);refine nt (am (ci h (λh=>?_) (λh=>?_)))
  .refine sk (aJ (Z:=Value) (α:=(List (List (List Int)))) (λz7 x6=>[(1,I a1),(3,Pt b1),(8,.eq (.func (.func 47) #[(.int .u8 a2)] #[])),(22,.rep (.slice (.slice Tl)) a0.2.2.2.2.1),(23,I (a0.2.2.2.2.1.length:Int)),(24,I y4.2)]) (λz7 x6=>[.obj b1 28 (.agg (.pair (I a0.1) (.pair (I a0.2.1) (.pair (I a0.2.2.1) (.pair (I a0.2.2.2.1) (.pair (.eq z7) (Rs ah a0.2.2.2.2.2))))))),.sl z7 33 (.slice Tl) x6]) h (λK h=>?_) (λz7 x6 h=>?_))
   .refine ak (sr (mq ?_));obtain⟨x8,VT,h⟩:=aa h;refine jb (aU (t:=(.slice Tl)) rfl xw mP VT) ?_;refine ja (ay (t:=(.slice Tl)) rfl mP rfl) ?_;refine aq ?_;refine aq (nt (sr ?_));refine cq (nt ?_);refine aJ (Z:=Value) (α:=(List (List Int))) (λQ x9=>[(1,I a1),(3,Pt b1),(8,.eq (.func (.func 47) #[(.int .u8 a2)] #[])),(11,.eq Q),(22,.rep (.slice (.slice Tl)) a0.2.2.2.2.1),(23,I (a0.2.2.2.2.1.length:Int)),(24,I y4.2)]) (λQ x9=>[.obj b1 28 (.agg (.pair (I a0.1) (.pair (I a0.2.1) (.pair (I a0.2.2.1) (.pair (I a0.2.2.2.1) (.pair (.eq z5) (Rs ah a0.2.2.2.2.2))))))),.sl z5 33 (.slice Tl) y4.1,.sl Q 22 Tl x9]) h (λK h=>?_) (λQ x9 h=>?_)
    .refine sr (mq ?_);refine ol qP ?_;refine fy rfl ?_;refine nt (ak (fL (SE.nil 22 Tl) ?_));refine aH (λe c=>[(1,I a1),(3,Pt b1),(8,.eq (.func (.func 47) #[(.int .u8 a2)] #[])),(9,I y4.2),(11,.eq e),(22,.rep (.slice (.slice Tl)) a0.2.2.2.2.1),(23,I (a0.2.2.2.2.1.length:Int)),(24,I y4.2),(29,.rep (.slice Tl) x8),(30,I (x8.length:Int)),(31,I c.2)]) (λe c=>[.obj b1 28 (.agg (.pair (I a0.1) (.pair (I a0.2.1) (.pair (I a0.2.2.1) (.pair (I a0.2.2.2.1) (.pair (.eq z5) (Rs ah a0.2.2.2.2.2))))))),.sl z5 33 (.slice Tl) y4.1,.sl e 22 Tl c.1]) (jH k a1 a2 y4 x8) k (.slice none 0 0) (([]:(List (List Int))),0) (λ_=>rfl) h (SE.fin [1,2,0] ⟨rfl,rfl,rfl,rfl,rfl,rfl,rfl,rfl,rfl,rfl,rfl,trivial⟩ rfl) (λn e c h=>?_);unfold jH at h;refine sr (jb (bG rfl) ?_);refine nt (am (ci h (λh=>?_) (λh=>?_)))
     .refine sk (aJ (Z:=Value) (α:=(List (List Int))) (λE X=>[(1,I a1),(3,Pt b1),(8,.eq (.func (.func 47) #[(.int .u8 a2)] #[])),(9,I y4.2),(11,.eq E),(22,.rep (.slice (.slice Tl)) a0.2.2.2.2.1),(23,I (a0.2.2.2.2.1.length:Int)),(24,I y4.2),(29,.rep (.slice Tl) x8),(30,I (x8.length:Int)),(31,I c.2)]) (λE X=>[.obj b1 28 (.agg (.pair (I a0.1) (.pair (I a0.2.1) (.pair (I a0.2.2.1) (.pair (I a0.2.2.2.1) (.pair (.eq z5) (Rs ah a0.2.2.2.2.2))))))),.sl z5 33 (.slice Tl) y4.1,.sl E 22 Tl X]) h (λK h=>?_) (λE X h=>?_))
      .refine ak (sr ?_);obtain⟨u,VG,h⟩:=aa h;refine jb (aU (t:=Tl) rfl qP ii VG) ?_;refine ja (ay (t:=Tl) rfl ii rfl) ?_;refine aq (nt (sr ?_));refine cq (nt ?_);refine aJ (Z:=Value) (α:=(List Int)) (λO M=>[(1,I a1),(3,Pt b1),(8,.eq (.func (.func 47) #[(.int .u8 a2)] #[])),(9,I y4.2),(11,.eq e),(14,.eq O),(22,.rep (.slice (.slice Tl)) a0.2.2.2.2.1),(23,I (a0.2.2.2.2.1.length:Int)),(24,I y4.2),(29,.rep (.slice Tl) x8),(30,I (x8.length:Int)),(31,I c.2)]) (λO M=>[.obj b1 28 (.agg (.pair (I a0.1) (.pair (I a0.2.1) (.pair (I a0.2.2.1) (.pair (I a0.2.2.2.1) (.pair (.eq z5) (Rs ah a0.2.2.2.2.2))))))),.sl z5 33 (.slice Tl) y4.1,.sl e 22 Tl c.1,.sl O 3 Ti M]) h (λK h=>?_) (λO M h=>?_)
       .refine sr (mq ?_);refine ol ix ?_;refine fy rfl ?_;refine nt (ak (fL (SE.nil 3 Ti) ?_));refine aH (λl j=>[(1,I a1),(3,Pt b1),(8,.eq (.func (.func 47) #[(.int .u8 a2)] #[])),(9,I y4.2),(11,.eq e),(14,.eq l),(22,.rep (.slice (.slice Tl)) a0.2.2.2.2.1),(23,I (a0.2.2.2.2.1.length:Int)),(24,I y4.2),(29,.rep (.slice Tl) x8),(30,I (x8.length:Int)),(31,I c.2),(35,.rep Tl u),(36,I (u.length:Int)),(37,I j.2)]) (λl j=>[.obj b1 28 (.agg (.pair (I a0.1) (.pair (I a0.2.1) (.pair (I a0.2.2.1) (.pair (I a0.2.2.2.1) (.pair (.eq z5) (Rs ah a0.2.2.2.2.2))))))),.sl z5 33 (.slice Tl) y4.1,.sl e 22 Tl c.1,.sl l 3 Ti j.1]) (jG k a1 a2 y4 u) k (.slice none 0 0) (([]:(List Int)),0) (λ_=>rfl) h (SE.fin [1,2,3,0] ⟨rfl,rfl,rfl,rfl,rfl,rfl,rfl,rfl,rfl,rfl,rfl,rfl,rfl,rfl,rfl,trivial⟩ rfl) (λn l j h=>?_);unfold jG at h;refine sr (jb (bG rfl) ?_);refine nt (am (ci h (λh=>?_) (λh=>?_)))
        .refine sk (aJ (Z:=Value) (α:=(List Int)) (λD U=>[(1,I a1),(3,Pt b1),(8,.eq (.func (.func 47) #[(.int .u8 a2)] #[])),(9,I y4.2),(11,.eq e),(14,.eq D),(22,.rep (.slice (.slice Tl)) a0.2.2.2.2.1),(23,I (a0.2.2.2.2.1.length:Int)),(24,I y4.2),(29,.rep (.slice Tl) x8),(30,I (x8.length:Int)),(31,I c.2),(35,.rep Tl u),(36,I (u.length:Int)),(37,I j.2)]) (λD U=>[.obj b1 28 (.agg (.pair (I a0.1) (.pair (I a0.2.1) (.pair (I a0.2.2.1) (.pair (I a0.2.2.2.1) (.pair (.eq z5) (Rs ah a0.2.2.2.2.2))))))),.sl z5 33 (.slice Tl) y4.1,.sl e 22 Tl c.1,.sl D 3 Ti U]) h (λK h=>?_) (λD U h=>?_))
         .refine ak (sr ?_);obtain⟨J,VF,h⟩:=aa h;refine jb (aU (t:=Ti) rfl ix cL VF) ?_;refine ja (ay (t:=Ti) rfl cL rfl) ?_;refine aq (nt ?_);refine aJ (Z:=Unit) (α:=Bool) (λmc gw=>[(1,I a1),(3,Pt b1),(8,.eq (.func (.func 47) #[(.int .u8 a2)] #[])),(9,I y4.2),(11,.eq e),(14,.eq l),(16,I J),(22,.rep (.slice (.slice Tl)) a0.2.2.2.2.1),(23,I (a0.2.2.2.2.1.length:Int)),(24,I y4.2),(29,.rep (.slice Tl) x8),(30,I (x8.length:Int)),(31,I c.2),(35,.rep Tl u),(36,I (u.length:Int)),(37,I j.2),(49,.eq (.bool gw))]) (λmc gw=>[.obj b1 28 (.agg (.pair (I a0.1) (.pair (I a0.2.1) (.pair (I a0.2.2.1) (.pair (I a0.2.2.2.1) (.pair (.eq z5) (Rs ah a0.2.2.2.2.2))))))),.sl z5 33 (.slice Tl) y4.1,.sl e 22 Tl c.1,.sl l 3 Ti j.1]) h (λK h=>?_) (λmc gw h=>?_)
          .refine ab ?_;iterate 2 refine mq ?_
           refine jb (bG rfl) ?_;refine mq ?_;refine cU (s:=44) rfl (λhb=>?_) (λhb=>?_)
           .replace h:=fo (vI hb) h;iterate 4 refine gn ?_
            refine pt (nl ?_);exact jz ((),true) h [0,1,2,3]
           .replace h:=di (vJ hb) h;refine gm ?_;refine gm ?_;obtain⟨mw,VL,h⟩:=aa h;refine gb (ug (fs:=[(.int .u8 a2)]) (cs:=[]) (ags:=[I J]) [.tmp 46] rfl rfl Jc rfl (gW k a2 J mw VL)) ?_;refine ga (iY rfl) ?_;refine pf (nl ?_);exact jz ((), !mw) h [0,1,2,3]
          .refine cv h (λh=>?_) (λh=>?_)
           .refine ab ?_;iterate 2 refine mq ?_
            refine ja (bf (t:=Ti) [(.tmp 51,_)] [J] rfl rfl dX (.cons rfl .int .nil) rfl rfl) ?_;obtain⟨VV,VJ,h⟩:=aa h;refine fr 3 ?_;refine dZ rfl rfl rfl (cu rfl rfl dX (au VJ)) ⟨rfl,rfl,trivial⟩ λVS=>?_;refine aq (aD (bn ?_));exact jz (VS,j.1++[J]) h [1,2,3,0]
           .refine bj (bn ?_);exact jz (l,j.1) h [0,1,2,3]
         .refine ab ?_;obtain⟨VO,VE,h⟩:=aa h;refine jb (bA rfl VE) ?_;refine mq (nl ?_);exact jz (D,(U,VO)) h [0,1,2,3]
        .refine xa ?_;exact jz (l,j.1) h [0,1,2,3]
       .refine ab ?_;iterate 2 refine mq ?_
        refine fr 3 ?_;refine dM (jk [14,56] ⟨rfl,rfl,trivial⟩) ?_;refine ja (bf (t:=Tl) [(.tmp 56,_)] [M] rfl rfl nX (.cons rfl .rep .nil) rfl rfl) ?_;obtain⟨VU,VI,h⟩:=aa h;refine fr 2 ?_;refine dZ rfl rfl rfl (cu rfl rfl nX (au VI)) ⟨rfl,rfl,trivial⟩ λVQ=>?_;refine aq (aD (bn ?_));exact jz (VQ,c.1++[M]) h [1,2,0]
      .refine ab ?_;obtain⟨VN,zz,h⟩:=aa h;refine jb (bA rfl zz) ?_;refine mq (nl ?_);exact jz (E,(X,VN)) h [0,1,2]
     .refine xa ?_;exact jz (e,c.1) h [0,1,2]
    .refine ab (fl cS ?_);refine lo gG ?_;refine mq ?_;refine fr 2 ?_;refine dM (jk [11,62] ⟨rfl,rfl,trivial⟩) ?_;refine ja (bf (t:=(.slice Tl)) [(.tmp 62,_)] [x9] rfl rfl uD (.cons rfl .rep .nil) rfl rfl) ?_;obtain⟨u32,VH,h⟩:=aa h;refine fr 1 ?_;refine dZ rfl rfl rfl (cu rfl rfl uD (au VH)) ⟨rfl,rfl,trivial⟩ λVP=>?_;refine fl cS ?_;refine o0 λo34=>?_;refine fr 1 ?_;refine aP rfl rfl (aM rfl gG o34 rfl rfl) ⟨rfl,rfl,trivial⟩ ?_;refine aD (bn ?_);exact jz (VP,y4.1++[x9]) h [0,1]
   .refine ab ?_;obtain⟨VM,qt,h⟩:=aa h;refine jb (bA rfl qt) ?_;refine mq (nl ?_);exact jz (z7,(x6,VM)) h [0,1]
  .refine xa ?_;exact jz (z5,y4.1) h [0,1]
 .
  refine sr (fr 1 ?_);refine dM (jA (off:=4) [] trivial rfl rfl) ?_;refine lo gC ?_;obtain⟨mt,VK,h⟩:=aa h;have y:=nR k (a0.1,a0.2.1,a0.2.2.1,a0.2.2.2.1,x2,a0.2.2.2.2.2) mt VK;rcases hr:mt with _ |VX
  .rw [hr] at h y;replace h:=wv h;refine aO (Δ:=[]) (F:=_) (λ_ _ _=>ag rfl _) rfl rfl (cf (N:=[(.tmp 67,.agg (.pair (I a0.1) (.pair (I a0.2.1) (.pair (I a0.2.2.1) (.pair (I a0.2.2.2.1) (.pair (.rep (.slice (.slice Tl)) x2) (Rs ah a0.2.2.2.2.2)))))))]) (aC [.tmp 67] rfl rfl MC rfl y) λ_ _ _ hn=>⟨(aK (t:=ap) (x:=(a0.1,a0.2.1,a0.2.2.1,a0.2.2.2.1,x2,a0.2.2.2.2.2)) (.agg (.pair .int (.pair .int (.pair .int (.pair .int (.pair .rep .rep)))))) trivial rfl hn.1),trivial⟩) ⟨rfl,trivial⟩ λ_=>?_;refine aq (nt (aF ?_));cases h;exact aQ (0,0) [.eq (.pointer none)] 0 ⟨rfl,trivial⟩ rfl
  .rw [hr] at h y;replace h:=wu h;refine aO (Δ:=[]) (F:=_) (λ_ _ _=>ag rfl _) rfl rfl (cf (N:=[(.tmp 67,.agg (.pair (I a0.1) (.pair (I a0.2.1) (.pair (I a0.2.2.1) (.pair (I a0.2.2.2.1) (.pair (.rep (.slice (.slice Tl)) x2) (Rs ah a0.2.2.2.2.2)))))))]) (aC [.tmp 67] rfl rfl MC rfl y) λ_ _ _ hn=>⟨(aK (t:=ap) (x:=(a0.1,a0.2.1,a0.2.2.1,a0.2.2.2.1,x2,a0.2.2.2.2.2)) (.agg (.pair .int (.pair .int (.pair .int (.pair .int (.pair .rep .rep)))))) trivial rfl hn.1),trivial⟩) ⟨rfl,trivial⟩ λY=>?_;refine aq (nt (aF ?_));cases h;exact aQ (Y.1,Y.2) [.eq (.pointer (some ⟨Y.1,0,none⟩))] 2 ⟨rfl,trivial⟩ rfl
def fe(k:Nat)(a0:ae)(r1:(List (List Int)))(y5:Int):Nat->Int->Option (Except Bool Unit)
 |0,_=>none
 |n+1,c=>
  if c < a0.1 then((((aG r1 y5).bind λs=>
  (aG s c).bind λr=>
  if r < 0 then((ck (y5+1)).bind λl=>
  (aG r1 l).bind λj=>
  (aG j c).bind λh=>
  some (decide (h=0))) else(some false)):Option (Bool)).bind λu=>
  if u=true then(some (.error true)) else((ck (c+1)).bind λe=>
  fe k a0 r1 y5 n e)) else(some (.ok ()))
def ff(k:Nat)(a0:ae)(r1:(List (List Int))):Nat->Int->Option (Except Bool Unit)
 |0,_=>none
 |n+1,y5=>
  if y5 < (a0.2.2.2.2.1.length:Int) then(bE (α:=Unit) ((ck (y5+1)).bind λx9=>
  (aG r1 x9).bind λh=>
  (aG r1 y5).bind λc=>
  (cM (xW h/\xW c)).bind λ_=>
  if h=c then(some (.ok ())) else(fe k a0 r1 y5 k 0)) (λe=>some (.error e)) λ_=>
  (ck (y5+1)).bind λj=>
  ff k a0 r1 n j) else(some (.ok ()))
def i9(k:Nat)(a0:ae)(a1:Int)(a2:Int):Option Bool:=
 (lQ k a0 a1).bind λr1=>
 bE (α:=Unit) (ff k a0 r1 k a2) (some) λ_=>
 some false
theorem oK(k:Nat)(a0:ae)(c z_a0:Nat)(a1:Int)(a2:Int)(r:Bool)(h:i9 k a0 a1 a2=some r):
 cz (ec Tryz.prog) 58 [Pt c,.eq (.int .u8 a1),I a2] [.obj c 94 (aW a0 z_a0),.inv z_a0 (cj k a0)] (λ_:Unit=>(bO [.eq (.bool r)],[.obj c 94 (aW a0 z_a0),.inv z_a0 (cj k a0)])):=by
 unfold i9 at h
 replace h:=bp h
 refine cz.of 56 Tryz.func58 rfl Tryz.ntmps58 rfl λS w0=>?_
 refine sr ?_
 refine cq ?_
 refine nt ?_
 refine sr ?_
 iterate 2 refine mq ?_
 obtain⟨r1,zz,h⟩:=aa h
 have VE:=pz k a0 c z_a0 a1 r1 zz
 refine fr 1 ?_
 refine fr 1 ?_
 refine aO (Δ:=[_,_]) (F:=_) (λ_ _ _=>ag rfl _) rfl rfl (aZ [.tmp 10,.tmp 11] rfl rfl FO rfl VE) ⟨rfl,rfl,trivial⟩ λ_=>?_
 refine aX rfl rfl rfl (bo rfl GK Js) trivial λb2=>?_
 refine aP rfl rfl (aM rfl Ho rfl rfl rfl) ⟨rfl,rfl,trivial⟩ ?_
 refine dM (jy (t:=(.arr 7 Tr)) (x:=r1) [7] .rep ⟨rfl,trivial⟩) ?_
 refine nt ?_
 refine dU (Z:=Unit) (α:=Unit) (λz4 x3=>[]) (λz4 x3=>[.obj c 94 (aW a0 z_a0),.inv z_a0 (cj k a0)]) (λe=>e=r) h (λe h=>Option.some.inj h) (λK hR h=>?_) (λz4 x3 h=>?_)
 .
  refine sr (mq ?_);refine aq (nt (ak ?_));refine aH (λz6 y5=>[(0,Pt c),(7,.at (.arr 7 Tr) r1),(8,I y5)]) (λz6 y5=>[.obj c 94 (aW a0 z_a0),.inv z_a0 (cj k a0)]) (ff k a0 r1) k () a2 (λ_=>rfl) h (SE.fin [0,1] ⟨rfl,rfl,rfl,trivial⟩ rfl) (λn z6 y5 h=>?_);unfold ff at h;refine am (sr ?_);iterate 2 refine mq ?_
  refine ja (cV rfl) ?_;refine fl jx ?_;refine fl cS ?_;refine lo gG ?_;refine ol xw ?_;refine jb (bG rfl) ?_;refine nt (ci h (λh=>?_) (λh=>?_))
  .refine sk (dU (Z:=Unit) (α:=Unit) (λz8 x7=>[(0,Pt c),(7,.at (.arr 7 Tr) r1),(8,I y5)]) (λz8 x7=>[.obj c 94 (aW a0 z_a0),.inv z_a0 (cj k a0)]) (λe=>e=r) h (λe h=>hR e h) (λK hR h=>?_) (λz8 x7 h=>?_))
   .refine ak (am (am (cN ?_)));refine dm ?_;obtain⟨x9,qt,h⟩:=aa h;refine db (bA rfl qt) ?_;obtain⟨VK,gw,h⟩:=aa h;refine db (cC (t:=Tr) rfl Kp jm gw) ?_;refine da (ay (t:=Tr) rfl jm rfl) ?_;refine dm ?_;obtain⟨VJ,Y,h⟩:=aa h;refine db (cC (t:=Tr) rfl Kp jm Y) ?_;refine da (ay (t:=Tr) rfl jm rfl) ?_;refine df d4 ?_;obtain⟨VL,l,h⟩:=aa h;refine jb (Ia rfl (au l).1 (au l).2) ?_;refine nt (ci h (λh=>?_) (λh=>?_))
    .refine eO (bi (cT (ao ?_)));exact jz ((),()) h [0,1]
    .refine sk (sr (mq ?_));refine ja (cV rfl) ?_;refine fl jx ?_;refine fl ge ?_;refine lo cL ?_;refine fy rfl ?_;refine nt (ak (aH (λD j=>[(0,Pt c),(7,.at (.arr 7 Tr) r1),(8,I y5),(36,I a0.1),(37,I j)]) (λD j=>[.obj c 94 (aW a0 z_a0),.inv z_a0 (cj k a0)]) (fe k a0 r1 y5) k () 0 (λ_=>rfl) h (SE.fin [0,1] ⟨rfl,rfl,rfl,rfl,rfl,trivial⟩ rfl) (λn D j h=>?_)));unfold fe at h;refine sr (jb (bG rfl) ?_);refine nt (am (ci h (λh=>?_) (λh=>?_)))
     .refine sk (am (ak (sr (mq ?_))));refine aq (nt ?_);refine aJ (Z:=Unit) (α:=Bool) (λy u=>[(0,Pt c),(7,.at (.arr 7 Tr) r1),(8,I y5),(36,I a0.1),(37,I j),(54,.eq (.bool u))]) (λy u=>[.obj c 94 (aW a0 z_a0),.inv z_a0 (cj k a0)]) h (λK h=>?_) (λy u h=>?_)
      .refine ab ?_;iterate 2 refine mq ?_
       obtain⟨VI,X,h⟩:=aa h;refine jb (cC (t:=Tr) rfl Kp jm X) ?_;obtain⟨VH,U,h⟩:=aa h;refine jb (cC (t:=Ti) rfl Dj cL U) ?_;refine ja (ay (t:=Ti) rfl cL rfl) ?_;refine jb (bG rfl) ?_;refine mq ?_;refine cU (s:=46) rfl (λhb=>?_) (λhb=>?_)
       .replace h:=fo (vI hb) h;refine gm ?_;obtain⟨VG,Q,h⟩:=aa h;refine gb (bA rfl Q) ?_;refine gm ?_;obtain⟨VF,O,h⟩:=aa h;refine gb (cC (t:=Tr) rfl Kp jm O) ?_;obtain⟨mw,M,h⟩:=aa h;refine gb (cC (t:=Ti) rfl Dj cL M) ?_;refine ga (ay (t:=Ti) rfl cL rfl) ?_;refine gb (jN rfl) ?_;refine pt (nl ?_);exact jz ((),decide (mw=0)) h [0,1]
       .replace h:=di (vJ hb) h;iterate 7 refine gn ?_
        refine pf (nl ?_);exact jz ((),false) h [0,1]
      .refine cv h (λh=>?_) (λh=>?_)
       .refine sr (cq (nt (aF (br (bP (br (bP (bM ?_))))))));obtain rfl:=hR _ h;exact aQ () [_] 2 ⟨rfl,trivial⟩ rfl
       .refine bj (aR (tn (ab ?_)));obtain⟨mt,J,h⟩:=aa h;refine jb (bA rfl J) ?_;refine mq (nl ?_);exact jz ((),mt) h [0,1]
     .refine eO (bi (bi (cT (bn ?_))));exact jz ((),()) h [0,1]
   .refine ab (mq ?_);obtain⟨mc,E,h⟩:=aa h;refine jb (bA rfl E) ?_;refine aq (nl ?_);exact jz ((),mc) h [0,1]
  .refine xa ?_;exact jz ((),()) h [0,1]
 .
  refine sr (cq (nt (aF ?_)));cases h;exact aQ () [_] 2 ⟨rfl,trivial⟩ rfl
def nE(k:Nat)(a0:Int)(a1:ae)(a2:Int):Option Bool:=
 (i9 k a1 a0 a2).bind λr1=>
 some r1
theorem t9(k:Nat)(a0:Int)(a1:ae)(c z_a1 j:Nat)(a2:Int)(e:Nat)(r:Bool)(h:nE k a0 a1 a2=some r):
 cz (ec Tryz.prog) 57 [.eq (.int .u8 a0),Pt j,Pt e] [.obj c 94 (aW a1 z_a1),.inv z_a1 (cj k a1),.obj j 51 (Pt c),.obj e 3 (I a2)] (λ_:Unit=>(bO [.eq (.bool r)],[.obj c 94 (aW a1 z_a1),.inv z_a1 (cj k a1),.obj j 51 (Pt c),.obj e 3 (I a2)])):=by
 unfold nE at h
 replace h:=bp h
 refine cz.of 9 Tryz.func57 rfl Tryz.ntmps57 rfl λS w0=>?_
 refine sr ?_
 refine cq ?_
 refine nt ?_
 refine sr ?_
 refine fr 2 ?_
 refine lo KN ?_
 refine mq ?_
 refine fr 3 ?_
 refine lo cL ?_
 obtain⟨r1,l,h⟩:=aa h
 have n:=oK k a1 c z_a1 a0 a2 r1 l
 refine fr 3 ?_
 refine fr 3 ?_
 refine aO (Δ:=[_,_]) (F:=_) (λ_ _ _=>ag rfl _) rfl rfl (aZ [.tmp 5,.tmp 6,.tmp 7] rfl rfl Uy rfl n) ⟨rfl,rfl,rfl,trivial⟩ λ_=>?_
 refine aq ?_
 refine nt ?_
 refine aF ?_
 refine bK (SE.fin (Γ':=[(4,_)]) [0,1,3,2] ⟨rfl,trivial⟩ rfl) ?_
 cases h
 exact aQ () [_] 4 ⟨rfl,trivial⟩ rfl
def eV(k:Nat)(a0:(List Int))(a1_0:ae)(a1_1:Int):Nat->Int->Option (Except Int Unit)
 |0,_=>none
 |n+1,y3=>
  if y3 < (a0.length:Int) then((aG a0 y3).bind λx5=>
  (nE k x5 a1_0 a1_1).bind λr6=>
  if r6=true then(some (.error y3)) else((ck (y3+1)).bind λx7=>
  eV k a0 a1_0 a1_1 n x7)) else(some (.ok ()))
def iV(k:Nat)(a0:(List Int))(a1_0:ae)(a1_1:Int):Option Int:=
 bE (α:=Unit) (eV k a0 a1_0 a1_1 k 0) (some) λ_=>
 some (-1:Int)
theorem ov(k:Nat)(a0:(List Int))(a1_0:ae)(b_a1_0 z_a1_0 c_a1_0:Nat)(a1_1:Int)(c_a1_1:Nat)(r:Int)(h:iV k a0 a1_0 a1_1=some r):
 cz (ec Tryz.prog) 76 [.rep (.slice (.int .u8)) a0,.eq (.func (.func 57) #[] #[(Pv c_a1_0),(Pv c_a1_1)])] [.obj b_a1_0 94 (aW a1_0 z_a1_0),.inv z_a1_0 (cj k a1_0),.obj c_a1_0 51 (Pt b_a1_0),.obj c_a1_1 3 (I a1_1)] (λ_:Unit=>(bO [I r],[.obj b_a1_0 94 (aW a1_0 z_a1_0),.inv z_a1_0 (cj k a1_0),.obj c_a1_0 51 (Pt b_a1_0),.obj c_a1_1 3 (I a1_1)])):=by
 unfold iV at h
 replace h:=bp h
 refine cz.of 19 Tryz.func76 rfl Tryz.ntmps76 rfl λS w0=>?_
 refine sr ?_
 refine cq ?_
 refine nt ?_
 refine dU (Z:=Unit) (α:=Unit) (λz2 x1=>[]) (λz2 x1=>[.obj b_a1_0 94 (aW a1_0 z_a1_0),.inv z_a1_0 (cj k a1_0),.obj c_a1_0 51 (Pt b_a1_0),.obj c_a1_1 3 (I a1_1)]) (λe=>e=r) h (λe h=>Option.some.inj h) (λK hR h=>?_) (λz2 x1 h=>?_)
 .
  refine sr (mq ?_);refine ol Bq ?_;refine fy rfl ?_;refine nt (ak (aH (λz4 y3=>[(0,.rep (.slice (.int .u8)) a0),(1,.eq (.func (.func 57) #[] #[(Pv c_a1_0),(Pv c_a1_1)])),(7,I (a0.length:Int)),(8,I y3)]) (λz4 y3=>[.obj c_a1_0 51 (Pt b_a1_0),.obj b_a1_0 94 (aW a1_0 z_a1_0),.obj c_a1_1 3 (I a1_1),.inv z_a1_0 (cj k a1_0)]) (eV k a0 a1_0 a1_1) k () 0 (λ_=>rfl) h (SE.fin [2,0,3,1] ⟨rfl,rfl,rfl,rfl,trivial⟩ rfl) (λn z4 y3 h=>?_)));unfold eV at h;refine sr (jb (bG rfl) ?_);refine nt (am (ci h (λh=>?_) (λh=>?_)))
  .refine sk (am (ak (sr (mq ?_))));refine aq (nt (sr ?_));iterate 3 refine mq ?_
   obtain⟨x5,j,h⟩:=aa h;refine jb (aU (t:=(.int .u8)) rfl Bq qc j) ?_;refine ja (ay (t:=(.int .u8)) rfl qc rfl) ?_;obtain⟨r6,l,h⟩:=aa h;refine fr 2 ?_;refine fr 1 ?_;refine fr 3 ?_;refine fr 3 ?_;refine aO (Δ:=[_,_,_,_]) (F:=_) (λ_ _ _=>ag rfl _) rfl rfl (rp (fs:=[]) (cs:=[(Pv c_a1_0),(Pv c_a1_1)]) (ags:=[.eq (.int .u8 x5)]) [.tmp 15] rfl rfl Uz rfl (t9 k x5 a1_0 b_a1_0 z_a1_0 c_a1_0 a1_1 c_a1_1 r6 l)) ⟨rfl,rfl,trivial⟩ λ_=>?_;refine nt (cv h (λh=>?_) (λh=>?_))
   .refine sr (mq ?_);refine aq (nt (aF (br (bP (bM ?_)))));obtain rfl:=hR _ h;exact aQ () [_] 4 ⟨rfl,trivial⟩ rfl
   .refine bj (aR (tn (ab ?_)));obtain⟨x7,c,h⟩:=aa h;refine jb (bA rfl c) ?_;refine mq (nl ?_);exact jz ((),x7) h [2,0,3,1]
  .refine xa ?_;exact jz ((),()) h [1,3,0,2]
 .
  refine sr (cq (nt (aF ?_)));cases h;exact aQ () [_] 4 ⟨rfl,trivial⟩ rfl
def eW(k:Nat)(a0:(List Int))(a1_0:ae)(a1_1:Int):Option Bool:=
 (iV k a0 a1_0 a1_1).bind λr1=>
 some (decide (0≤r1))
theorem mT(k:Nat)(a0:(List Int))(a1_0:ae)(b_a1_0 z_a1_0 c_a1_0:Nat)(a1_1:Int)(c_a1_1:Nat)(r:Bool)(h:eW k a0 a1_0 a1_1=some r):
 cz (ec Tryz.prog) 59 [.rep (.slice (.int .u8)) a0,.eq (.func (.func 57) #[] #[(Pv c_a1_0),(Pv c_a1_1)])] [.obj b_a1_0 94 (aW a1_0 z_a1_0),.inv z_a1_0 (cj k a1_0),.obj c_a1_0 51 (Pt b_a1_0),.obj c_a1_1 3 (I a1_1)] (λ_:Unit=>(bO [.eq (.bool r)],[.obj b_a1_0 94 (aW a1_0 z_a1_0),.inv z_a1_0 (cj k a1_0),.obj c_a1_0 51 (Pt b_a1_0),.obj c_a1_1 3 (I a1_1)])):=by
 unfold eW at h
 replace h:=bp h
 refine cz.of 9 Tryz.func59 rfl Tryz.ntmps59 rfl λS w0=>?_
 refine sr ?_
 refine cq ?_
 refine nt ?_
 refine sr ?_
 iterate 2 refine mq ?_
 obtain⟨r1,c,h⟩:=aa h
 have e:=ov k a0 a1_0 b_a1_0 z_a1_0 c_a1_0 a1_1 c_a1_1 r1 c
 refine fr 3 ?_
 refine fr 3 ?_
 refine fr 3 ?_
 refine fr 3 ?_
 refine aO (Δ:=[_,_,_,_]) (F:=_) (λ_ _ _=>ag rfl _) rfl rfl (aZ [.tmp 5,.tmp 6] rfl rfl Ur rfl e) ⟨rfl,rfl,trivial⟩ λ_=>?_
 refine jb (kC rfl) ?_
 refine aq ?_
 refine nt ?_
 refine aF ?_
 cases h
 exact aQ () [_] 4 ⟨rfl,trivial⟩ rfl
def qz(k:Nat)(a0:ae)(a1:Int):Option ((List Int)×Int):=
 (mY k a0 ([]:(List Int)) [a1] ([]:(List Int))).bind λr3=>
 gI r3.1 (if¬(r3.2.2=0) then(some (([]:(List Int)),r3.2.2)) else(none)) (λq4=>if¬(r3.2.2=0) then(some (([]:(List Int)),r3.2.2)) else((jS k (qX (λ(c:(List Int)) (e:Int)=>
  (nC k a0 a1 e).bind λr=>
  gI r (none) (λs=>(eW k r3.2.1 s a1).bind λn=>
  if¬(n=true) then((cM (bN (length c+length [e]))).bind λ_=>
  some (c++[e],true)) else(some (c,true))))) a0.1 (([]:(List Int)),false)).bind λh=>
 if h.2=true then(none) else((qw k h.1).bind λl=>
 (f8 k l).bind λj=>
 some (j,0))))
theorem wl(k:Nat)(a0:ae)(a1:Int)(r:(List Int)×Int)(h:qz k a0 a1=some r):
 cz (ec Tryz.prog) 28 [.rep ap a0,I a1] [] (λ_:Unit=>(bO [.rep Tl r.1,I r.2],[])):=by
 unfold qz at h
 replace h:=bp h
 refine vF 44 Tryz.func28 rfl Tryz.ntmps28 rfl λS w0=>?_
 refine sr ?_
 refine bx λb1=>?_
 refine bx λb2=>?_
 refine cq ?_
 refine cq ?_
 refine nt ?_
 refine sr ?_
 refine fr 1 ?_
 refine lo gC ?_
 refine fr 1 ?_
 refine lo cL ?_
 refine ja (bf (t:=Ti) [(.tmp 15,_)] [a1] rfl rfl dX (.cons rfl .int .nil) rfl rfl) ?_
 obtain⟨r3,VF,h⟩:=aa h
 have y:=nB k a0 ([]:(List Int)) [a1] ([]:(List Int)) r3 VF
 rcases hr:r3.1 with _ |q4
 .
  rw [hr] at h y;replace h:=wv h;refine aO (Δ:=[]) (F:=_) (λ_ _ _=>ag rfl _) rfl rfl (cf (N:=[(.tmp 14,.rep ap a0),(.const (.slice none 0 0),.eq (.slice none 0 0)),(.tmp 16,.rep Tl [a1]),(.const (.slice none 0 0),.eq (.slice none 0 0))]) (aZ [.tmp 14,.const (.slice none 0 0),.tmp 16,.const (.slice none 0 0)] rfl rfl FM rfl y) λ_ _ _ hn=>⟨hn.1,(aK (t:=Tl) (x:=([]:(List Int))) .nil rfl rfl hn.2.1),hn.2.2.1,(aK (t:=Tl) (x:=([]:(List Int))) .nil rfl rfl hn.2.2.2.1),trivial⟩) ⟨rfl,rfl,rfl,rfl,trivial⟩ λ_=>?_;refine mq ?_;refine xr ?_;refine xr ?_;refine xr ?_;refine aX rfl rfl rfl (bo rfl Kr M8) trivial λb5=>?_;refine aq ?_;refine aP rfl rfl (aM rfl xP rfl rfl rfl) ⟨rfl,rfl,trivial⟩ ?_;refine aq (nt (am (sr ?_)));refine mq ?_;refine jb (eX rfl) ?_;refine nt (cn h (λh=>?_) (λh=>?_))
  .refine sr (mq ?_);refine cq ?_;refine aq (nt (rx ?_));refine bK (fq (t:=Tl) (x:=([]:(List Int))) 4 rfl .nil rfl rfl) ?_;refine A9 ?_;cases h;exact rb
  .cases h
 .
  rw [hr] at h y;replace h:=wu h;refine aO (Δ:=[]) (F:=_) (λ_ _ _=>ag rfl _) rfl rfl (cf (N:=[(.tmp 14,.rep ap a0),(.const (.slice none 0 0),.eq (.slice none 0 0)),(.tmp 16,.rep Tl [a1]),(.const (.slice none 0 0),.eq (.slice none 0 0))]) (aZ [.tmp 14,.const (.slice none 0 0),.tmp 16,.const (.slice none 0 0)] rfl rfl FM rfl y) λ_ _ _ hn=>⟨hn.1,(aK (t:=Tl) (x:=([]:(List Int))) .nil rfl rfl hn.2.1),hn.2.2.1,(aK (t:=Tl) (x:=([]:(List Int))) .nil rfl rfl hn.2.2.2.1),trivial⟩) ⟨rfl,rfl,rfl,rfl,trivial⟩ λz6=>?_;refine mq ?_;refine xr ?_;refine xr ?_;refine xr ?_;refine aX rfl rfl rfl (bo rfl Kr M8) trivial λb7=>?_;refine aq ?_;refine aP rfl rfl (aM rfl xP rfl rfl rfl) ⟨rfl,rfl,trivial⟩ ?_;refine aq (nt (am (sr ?_)));refine mq ?_;refine jb (eX rfl) ?_;refine nt (cn h (λh=>?_) (λh=>?_))
  .refine sr (mq ?_);refine cq ?_;refine aq (nt (rx ?_));refine bK (fq (t:=Tl) (x:=([]:(List Int))) 4 rfl .nil rfl rfl) ?_;refine A9 ?_;cases h;exact rb
  .refine sk (sr (aX rfl rfl rfl (bo rfl Kr M8) trivial λb8=>?_));refine nt (am (sr (fl ge ?_)));refine fr 5 ?_;refine lo cL ?_;refine aX rfl rfl rfl (aC [.tmp 25] rfl rfl R9 rfl (rG a0.1)) ⟨rfl,trivial⟩ λb9=>?_;refine nt (ak (fL (SE.nil 52 (.int .u8)) ?_));refine dE 7 rfl ?_;refine dE 7 rfl ?_;refine dE 7 rfl ?_;refine dE 7 rfl ?_;refine dE 4 rfl ?_;refine dE 7 rfl ?_;refine dE 7 rfl ?_;refine dE 7 rfl ?_;obtain⟨u,mw,h⟩:=aa h;refine rZ (Δ:=[.obj b9 3 (I a0.1),.obj b1 28 (.rep ap a0),.obj b8 61 (.eq (.slice none 0 0)),.sl (.slice none 0 0) 52 (.int .u8) ([]:(List Int)),.obj b7 61 (.rep (.slice (.int .u8)) r3.2.1),.obj z6.1 94 (aW q4 z6.2),.inv z6.2 (cj k q4),.obj b2 3 (I a1)]) (F:=[]) (X:=Value) (J:=λ_=>QH u.2) (E:=λc=>[.obj b9 3 (I a0.1),.obj b1 28 (.rep ap a0),.obj b8 61 (.eq c),.sl c 52 (.int .u8) u.1,.obj b7 61 (.rep (.slice (.int .u8)) r3.2.1),.obj z6.1 94 (aW q4 z6.2),.inv z6.2 (cj k q4),.obj b2 3 (I a1)]) (r0:=λ_=>.tup .any) rfl rfl RU (λrec hp ha hb hs hpe hN hv l=>?_) (λdl c=>ux (λhj=>?_) (λhj=>?_))
   .rcases rec with⟨st0,pe0,fn0,tm0,ps0,as0,bd0,df0⟩;dsimp only at hp ha hb hs hpe hN hv;subst hp hs hpe;have vN:A1 tm0 [(2,Pt b1),(3,Pt b2),(7,Pt b7),(9,Pt b8)]:=⟨congrArg A.eq (hv 2 _ rfl).symm,congrArg A.eq (hv 3 _ rfl).symm,congrArg A.eq (hv 7 _ rfl).symm,congrArg A.eq (hv 9 _ rfl).symm,trivial⟩;refine cz.pick (M:=(ec Tryz.prog)) [1,0,2,3,4,5,6,7,8] [1,0,2,3,4,5,6,7,8] (oM (λ(c:Value) (q:(List Int)×Bool)=>[.raw l (.loop (km ⟨.ready,none,fn0,tm0, #[27],as0,bd0,df0⟩ (QH q.2))),.obj b1 28 (.rep ap a0),.obj b8 61 (.eq c),.sl c 52 (.int .u8) q.1,.obj b7 61 (.rep (.slice (.int .u8)) r3.2.1),.obj z6.1 94 (aW q4 z6.2),.inv z6.2 (cj k q4),.obj b2 3 (I a1)]) l (qX (λ(n:(List Int)) (j:Int)=>
    (nC k a0 a1 j).bind λs=>
    gI s (none) (λO=>(eW k r3.2.1 O a1).bind λD=>
    if¬(D=true) then((cM (bN (length n+length [j]))).bind λ_=>
    some (n++[j],true)) else(some (n,true))))) k a0.1 b9 (λc q p r' h=>?_) (.slice none 0 0) (([]:(List Int)),false) u mw) rfl (λ_=>rfl) (λ_=>rfl)
    obtain⟨rq,hq,h2,rfl⟩:=uy h;obtain⟨n,b5⟩:=q;obtain rfl:b5=false:=hq;replace h:=bp h2;obtain⟨j,hpv⟩:∃x,x=p:=⟨_,rfl⟩;subst hpv;refine YT.pick (R':=(λc:Value=>(.eq (.bool rq.2),[.raw l (.loop (km ⟨.ready,none,fn0,tm0, #[27],as0,bd0,df0⟩ (QH (!rq.2)))),.obj b1 28 (.rep ap a0),.obj b8 61 (.eq c),.sl c 52 (.int .u8) rq.1,.obj b7 61 (.rep (.slice (.int .u8)) r3.2.1),.obj z6.1 94 (aW q4 z6.2),.inv z6.2 (cj k q4),.obj b2 3 (I a1)]))) [0,1,2,3,4,5,6,7] [0,1,2,3,4,5,6,7] (Jv ha hb (N:=44) (Γ:=[(2,Pt b1),(3,Pt b2),(7,Pt b7),(9,Pt b8)]) rfl hN (by decide) vN (λS w=>?_)) rfl (λ_=>rfl) (λ_=>rfl);refine ab (aq (nl ?_));refine Bc rfl rfl ?_;refine ak (sr (fr 1 ?_));refine lo gC ?_;refine fr 7 ?_;refine lo cL ?_;refine mq ?_;obtain⟨s,mt,h⟩:=aa h;have e:=wi k a0 a1 j s mt;rcases hr:s with _ |O
    .rw [hr] at h e;replace h:=wv h;refine aO (Δ:=[]) (F:=_) (λ_ _ _=>ag rfl _) rfl rfl (aC [.tmp 28,.tmp 29,.tmp 30] rfl rfl RY rfl e) ⟨rfl,rfl,rfl,trivial⟩ λ_=>?_;cases h
    .rw [hr] at h e;replace h:=wu h;refine aO (Δ:=[]) (F:=_) (λ_ _ _=>ag rfl _) rfl rfl (aC [.tmp 28,.tmp 29,.tmp 30] rfl rfl RY rfl e) ⟨rfl,rfl,rfl,trivial⟩ λQ=>?_;refine aX rfl rfl rfl (bo rfl TL UR) trivial λqt=>?_;refine aP rfl rfl (aM rfl KN rfl rfl rfl) ⟨rfl,rfl,trivial⟩ ?_;refine nt (sr (jb (sG [] [.tmp 11,.tmp 3] [] [(Pv qt),(Pv b2)] rfl rfl rfl) ?_));refine aq (nt (sr ?_));refine fr 8 ?_;refine lo xP ?_;refine mq ?_;obtain⟨D,mc,h⟩:=aa h;refine fr 4 ?_;refine fr 2 ?_;refine fr 4 ?_;refine fr 4 ?_;refine aO (Δ:=[_,_,_,_]) (F:=_) (λ_ _ _=>ag rfl _) rfl rfl (aZ [.tmp 33,.tmp 34] rfl rfl Ux rfl (mT k r3.2.1 O Q.1 Q.2 qt a1 b2 D mc)) ⟨rfl,rfl,trivial⟩ λ_=>?_;refine ja (iY rfl) ?_;refine nt (cw h (λh=>?_) (λh=>?_))
     .refine ab (fr 7 ?_);refine lo xP ?_;refine mq ?_;refine ja (bf (t:=(.int .u8)) [(.tmp 38,_)] [j] rfl rfl KZ (.cons rfl .int .nil) rfl rfl) ?_;obtain⟨VG,Y,h⟩:=aa h;refine fr 8 ?_;refine dZ rfl rfl rfl (cu rfl rfl KZ (au Y)) ⟨rfl,rfl,trivial⟩ λzz=>?_;refine o0 λo22=>?_;refine fr 1 ?_;refine aP rfl rfl (aM rfl xP o22 rfl rfl) ⟨rfl,rfl,trivial⟩ ?_;refine aD (aR (bv 5 rfl ?_));refine bv 10 rfl ?_;refine bv 10 rfl ?_;refine bv 8 rfl ?_;refine bv 5 rfl ?_;refine bv 5 rfl ?_;refine bv 9 rfl ?_;refine bv 10 rfl ?_;cases h;exact pH zz 7 rfl
     .refine bj (aR (bv 3 rfl ?_));refine bv 10 rfl ?_;refine bv 10 rfl ?_;refine bv 6 rfl ?_;refine bv 10 rfl ?_;refine bv 10 rfl ?_;refine bv 9 rfl ?_;refine bv 10 rfl ?_;cases h;exact pH c 7 rfl
   .replace h:=di (OH hj) h;refine aR (tn (sr (fr 3 ?_)));refine lo xP ?_;obtain⟨U,gw,h⟩:=aa h;refine fr 4 ?_;refine kb (lJ (N:=[(.tmp 41,.eq c),(.func 61,.eq (.func (.func 61) #[] #[]))]) (aC [.tmp 41,.func 61] rfl rfl Uw rfl (wj k u.1 U gw)) (λ_ _ _ hv hn=>⟨(lend hn.1 hv),hn.2.1,trivial⟩) (λ_=>⟨rfl,oR⟩)) ?_;obtain⟨VE,Z,h⟩:=aa h;refine ja (aC [.tmp 42] rfl rfl P1 rfl (kw k U VE Z)) ?_;refine aq ?_;refine cq (nt (aF ?_));refine bv 2 rfl ?_;refine EQ ?_;cases h;exact rb
   .replace h:=fo (OG hj) h;cases h
def rK(k:Nat):Option Bool:=
 (iN k ([]:(List an))).bind λr1=>
 (fj k r1 [0]).bind λr2=>
 (iN k ([]:(List an))).bind λr3=>
 (gd k r3).bind λr4=>
 (iN k ([]:(List an))).bind λr5=>
 (sU k r5 2).bind λr6=>
 (iN k ([]:(List an))).bind λr8=>
 (sV k r8 [0] 3).bind λr9=>
 (iN k ([]:(List an))).bind λu=>
 (uX k u 2).bind λc=>
 (iN k ([]:(List an))).bind λs=>
 (qz k s 2).bind λe=>
 ((if r2.2=0 then(if r4.2=0 then(if r6.2=0 then(if r9.2=0 then(if c.2.2=0 then(if e.2=0 then(if r6.1=(1,3) then(if c.1=2 then(if c.2.1=2 then((jJ k r2.1 [[1,(-1:Int),(-1:Int),(-1:Int)],[2,0,(-1:Int),(-1:Int)],[3,1,(-1:Int),(-1:Int)],[3,2,0,(-1:Int)],[(-1:Int),3,1,0]]).bind λr=>
 if r=true then((jJ k r4.1 [[0],[0,1],[1]]).bind λn=>
 if n=true then((jf k r9.1 [0,1,3]).bind λl=>
 if l=true then((jf k e.1 [1,2]).bind λj=>
 some j) else(some false)) else(some false)) else(some false)) else(some false)) else(some false)) else(some false)) else(some false)) else(some false)) else(some false)) else(some false)) else(some false)) else(some false)):Option (Bool)).bind λh=>
 some h
theorem An(k:Nat)(r:Bool)(h:rK k=some r):
 cz (ec Tryz.prog) 13 [] [] (λ_:Unit=>(bO [.eq (.bool r)],[])):=by
 unfold rK at h
 replace h:=bp h
 refine cz.of 110 Tryz.func13 rfl Tryz.ntmps13 rfl λS w0=>?_
 refine sr ?_
 refine cq ?_
 refine nt ?_
 refine sr ?_
 obtain⟨r1,VJ,h⟩:=aa h
 have VS:=g9 k ([]:(List an)) r1 VJ
 refine ja (cf (N:=[(.const (.slice none 0 0),.eq (.slice none 0 0))]) (aC [.const (.slice none 0 0)] rfl rfl FN rfl VS) λ_ _ _ hn=>⟨(aK (t:=(.slice ah)) (x:=([]:(List an))) .nil rfl rfl hn.1),trivial⟩) ?_
 refine ja (bf (t:=Ti) [(.const (.int .i64 (0)),_)] [0] rfl rfl dX (.cons rfl .int .nil) rfl rfl) ?_
 obtain⟨r2,VI,h⟩:=aa h
 have VQ:=mz k r1 [0] r2 VI
 refine jb (aZ [.tmp 15,.tmp 16] rfl rfl P3 rfl VQ) ?_
 refine mq ?_
 refine xr ?_
 refine xr ?_
 refine aq ?_
 refine aq ?_
 refine nt ?_
 refine sr ?_
 obtain⟨r3,VH,h⟩:=aa h
 have VP:=g9 k ([]:(List an)) r3 VH
 refine ja (cf (N:=[(.const (.slice none 0 0),.eq (.slice none 0 0))]) (aC [.const (.slice none 0 0)] rfl rfl FN rfl VP) λ_ _ _ hn=>⟨(aK (t:=(.slice ah)) (x:=([]:(List an))) .nil rfl rfl hn.1),trivial⟩) ?_
 obtain⟨r4,VG,h⟩:=aa h
 have VO:=mA k r3 r4 VG
 refine ja (aZ [.tmp 21] rfl rfl P2 rfl VO) ?_
 refine mq ?_
 refine xr ?_
 refine xr ?_
 refine aq ?_
 refine aq ?_
 refine nt ?_
 refine sr ?_
 obtain⟨r5,VF,h⟩:=aa h
 have VN:=g9 k ([]:(List an)) r5 VF
 refine ja (cf (N:=[(.const (.slice none 0 0),.eq (.slice none 0 0))]) (aC [.const (.slice none 0 0)] rfl rfl FN rfl VN) λ_ _ _ hn=>⟨(aK (t:=(.slice ah)) (x:=([]:(List an))) .nil rfl rfl hn.1),trivial⟩) ?_
 obtain⟨r6,VE,h⟩:=aa h
 have VM:=yj k r5 2 r6 VE
 refine jb (aZ [.tmp 26,.const (.int .i64 (2))] rfl rfl UL rfl VM) ?_
 refine mq ?_
 refine xr ?_
 refine xr ?_
 refine aX rfl rfl rfl (bo rfl Br SN) trivial λb7=>?_
 refine aP rfl rfl (aM rfl vV rfl rfl rfl) ⟨rfl,rfl,trivial⟩ ?_
 refine aq ?_
 refine nt ?_
 refine sr ?_
 obtain⟨r8,zz,h⟩:=aa h
 have VL:=g9 k ([]:(List an)) r8 zz
 refine ja (cf (N:=[(.const (.slice none 0 0),.eq (.slice none 0 0))]) (aC [.const (.slice none 0 0)] rfl rfl FN rfl VL) λ_ _ _ hn=>⟨(aK (t:=(.slice ah)) (x:=([]:(List an))) .nil rfl rfl hn.1),trivial⟩) ?_
 refine ja (bf (t:=Ti) [(.const (.int .i64 (0)),_)] [0] rfl rfl dX (.cons rfl .int .nil) rfl rfl) ?_
 obtain⟨r9,qt,h⟩:=aa h
 have VK:=yl k r8 [0] 3 r9 qt
 refine jc (aZ [.tmp 31,.tmp 32,.const (.int .i64 (3))] rfl rfl UK rfl VK) ?_
 refine mq ?_
 refine xr ?_
 refine xr ?_
 refine aq ?_
 refine aq ?_
 refine nt ?_
 refine sr ?_
 obtain⟨u,O,h⟩:=aa h
 have Y:=g9 k ([]:(List an)) u O
 refine ja (cf (N:=[(.const (.slice none 0 0),.eq (.slice none 0 0))]) (aC [.const (.slice none 0 0)] rfl rfl FN rfl Y) λ_ _ _ hn=>⟨(aK (t:=(.slice ah)) (x:=([]:(List an))) .nil rfl rfl hn.1),trivial⟩) ?_
 obtain⟨mw,M,h⟩:=aa h
 have X:=Aa k u 2 mw M
 refine jb (aZ [.tmp 37,.const (.int .i64 (2))] rfl rfl UJ rfl X) ?_
 refine mq ?_
 refine xr ?_
 refine xr ?_
 refine xr ?_
 refine aq ?_
 refine aq ?_
 refine aq ?_
 refine nt ?_
 refine sr ?_
 obtain⟨n,J,h⟩:=aa h
 have U:=g9 k ([]:(List an)) n J
 refine ja (cf (N:=[(.const (.slice none 0 0),.eq (.slice none 0 0))]) (aC [.const (.slice none 0 0)] rfl rfl FN rfl U) λ_ _ _ hn=>⟨(aK (t:=(.slice ah)) (x:=([]:(List an))) .nil rfl rfl hn.1),trivial⟩) ?_
 obtain⟨l,I,h⟩:=aa h
 have Q:=wl k n 2 l I
 refine jb (aZ [.tmp 43,.const (.int .i64 (2))] rfl rfl UI rfl Q) ?_
 refine mq ?_
 refine xr ?_
 refine xr ?_
 refine aq ?_
 refine aq ?_
 refine nt ?_
 refine aJ (Z:=Unit) (α:=Bool) (λe c=>[(0,.eq (.bool c))]) (λe c=>[]) h (λK h=>?_) (λe c h=>?_)
 .
  refine ab (mq ?_);refine jb (jN rfl) ?_;refine mq ?_;refine cU (s:=49) rfl (λhb=>?_) (λhb=>?_)
  .replace h:=fo (vI hb) h;refine gm ?_;refine gb (jN rfl) ?_;refine pt ?_;refine mq ?_;refine cU (s:=53) rfl (λhb=>?_) (λhb=>?_)
   .replace h:=fo (vI hb) h;refine gm ?_;refine gb (jN rfl) ?_;refine pt ?_;refine mq ?_;refine cU (s:=57) rfl (λhb=>?_) (λhb=>?_)
    .replace h:=fo (vI hb) h;refine gm ?_;refine gb (jN rfl) ?_;refine pt ?_;refine mq ?_;refine cU (s:=61) rfl (λhb=>?_) (λhb=>?_)
     .replace h:=fo (vI hb) h;refine gm ?_;refine gb (jN rfl) ?_;refine pt ?_;refine mq ?_;refine cU (s:=65) rfl (λhb=>?_) (λhb=>?_)
      .replace h:=fo (vI hb) h;refine gm ?_;refine gb (jN rfl) ?_;refine pt ?_;refine mq ?_;refine cU (s:=69) rfl (λhb=>?_) (λhb=>?_)
       .replace h:=fo (vI hb) h;refine nL rfl rfl rfl rfl rfl rfl (ax rfl vV (tP) rfl) ⟨rfl,trivial⟩ ?_;refine gb (eo [(0,.const (.int .i64 (1)),_),(1,.const (.int .i64 (3)),_)] rfl HQ Br AV (jM ⟨rfl,rfl,trivial⟩) rfl) ?_;refine dM (fq (t:=bX) (x:=(1,3)) 71 rfl (.agg (.pair .int .int)) trivial rfl) ?_;refine gb (Pj rfl Un rfl) ?_;refine pt ?_;refine mq ?_;refine cU (s:=74) rfl (λhb=>?_) (λhb=>?_)
        .replace h:=fo (vI hb) h;refine gm ?_;refine gb (jN rfl) ?_;refine pt ?_;refine mq ?_;refine cU (s:=78) rfl (λhb=>?_) (λhb=>?_)
         .replace h:=fo (vI hb) h;refine gm ?_;refine gb (jN rfl) ?_;refine pt ?_;refine mq ?_;refine cU (s:=82) rfl (λhb=>?_) (λhb=>?_)
          .replace h:=fo (vI hb) h;refine gm ?_;refine mI rfl rfl rfl rfl rfl rfl (bf (t:=Ti) [(.const (.int .i64 (1)),_),(.const (.int .i64 (-1)),_),(.const (.int .i64 (-1)),_),(.const (.int .i64 (-1)),_)] [1,(-1:Int),(-1:Int),(-1:Int)] rfl rfl dX (.cons rfl .int (.cons rfl .int (.cons rfl .int (.cons rfl .int .nil)))) rfl rfl) ⟨rfl,rfl,rfl,rfl,trivial⟩ ?_;refine mI rfl rfl rfl rfl rfl rfl (bf (t:=Ti) [(.const (.int .i64 (2)),_),(.const (.int .i64 (0)),_),(.const (.int .i64 (-1)),_),(.const (.int .i64 (-1)),_)] [2,0,(-1:Int),(-1:Int)] rfl rfl dX (.cons rfl .int (.cons rfl .int (.cons rfl .int (.cons rfl .int .nil)))) rfl rfl) ⟨rfl,rfl,rfl,rfl,trivial⟩ ?_;refine mI rfl rfl rfl rfl rfl rfl (bf (t:=Ti) [(.const (.int .i64 (3)),_),(.const (.int .i64 (1)),_),(.const (.int .i64 (-1)),_),(.const (.int .i64 (-1)),_)] [3,1,(-1:Int),(-1:Int)] rfl rfl dX (.cons rfl .int (.cons rfl .int (.cons rfl .int (.cons rfl .int .nil)))) rfl rfl) ⟨rfl,rfl,rfl,rfl,trivial⟩ ?_;refine mI rfl rfl rfl rfl rfl rfl (bf (t:=Ti) [(.const (.int .i64 (3)),_),(.const (.int .i64 (2)),_),(.const (.int .i64 (0)),_),(.const (.int .i64 (-1)),_)] [3,2,0,(-1:Int)] rfl rfl dX (.cons rfl .int (.cons rfl .int (.cons rfl .int (.cons rfl .int .nil)))) rfl rfl) ⟨rfl,rfl,rfl,rfl,trivial⟩ ?_;refine mI rfl rfl rfl rfl rfl rfl (bf (t:=Ti) [(.const (.int .i64 (-1)),_),(.const (.int .i64 (3)),_),(.const (.int .i64 (1)),_),(.const (.int .i64 (0)),_)] [(-1:Int),3,1,0] rfl rfl dX (.cons rfl .int (.cons rfl .int (.cons rfl .int (.cons rfl .int .nil)))) rfl rfl) ⟨rfl,rfl,rfl,rfl,trivial⟩ ?_;refine mI rfl rfl rfl rfl rfl rfl (bf (t:=Tl) [(.tmp 84,_),(.tmp 85,_),(.tmp 86,_),(.tmp 87,_),(.tmp 88,_)] [[1,(-1:Int),(-1:Int),(-1:Int)],[2,0,(-1:Int),(-1:Int)],[3,1,(-1:Int),(-1:Int)],[3,2,0,(-1:Int)],[(-1:Int),3,1,0]] rfl rfl nX (.cons rfl .rep (.cons rfl .rep (.cons rfl .rep (.cons rfl .rep (.cons rfl .rep .nil))))) rfl rfl) ⟨rfl,rfl,rfl,rfl,rfl,trivial⟩ ?_;obtain⟨mt,F,h⟩:=aa h;refine gb (aC [.tmp 83,.tmp 89] rfl rfl Sj rfl (m9 k r2.1 [[1,(-1:Int),(-1:Int),(-1:Int)],[2,0,(-1:Int),(-1:Int)],[3,1,(-1:Int),(-1:Int)],[3,2,0,(-1:Int)],[(-1:Int),3,1,0]] mt F)) ?_;refine pt ?_;refine mq ?_;refine cU (s:=92) rfl (λhb=>?_) (λhb=>?_)
           .replace h:=fo (OG hb) h;refine gm ?_;refine ga (bf (t:=Ti) [(.const (.int .i64 (0)),_)] [0] rfl rfl dX (.cons rfl .int .nil) rfl rfl) ?_;refine gb (bf (t:=Ti) [(.const (.int .i64 (0)),_),(.const (.int .i64 (1)),_)] [0,1] rfl rfl dX (.cons rfl .int (.cons rfl .int .nil)) rfl rfl) ?_;refine ga (bf (t:=Ti) [(.const (.int .i64 (1)),_)] [1] rfl rfl dX (.cons rfl .int .nil) rfl rfl) ?_;refine gc (bf (t:=Tl) [(.tmp 94,_),(.tmp 95,_),(.tmp 96,_)] [[0],[0,1],[1]] rfl rfl nX (.cons rfl .rep (.cons rfl .rep (.cons rfl .rep .nil))) rfl rfl) ?_;obtain⟨mc,E,h⟩:=aa h;refine gb (aC [.tmp 93,.tmp 97] rfl rfl Sj rfl (m9 k r4.1 [[0],[0,1],[1]] mc E)) ?_;refine pt ?_;refine mq ?_;refine cU (s:=100) rfl (λhb=>?_) (λhb=>?_)
            .replace h:=fo (OG hb) h;refine gm ?_;refine gc (bf (t:=Ti) [(.const (.int .i64 (0)),_),(.const (.int .i64 (1)),_),(.const (.int .i64 (3)),_)] [0,1,3] rfl rfl dX (.cons rfl .int (.cons rfl .int (.cons rfl .int .nil))) rfl rfl) ?_;obtain⟨gw,D,h⟩:=aa h;refine gb (aC [.tmp 101,.tmp 102] rfl rfl P0 rfl (ky k r9.1 [0,1,3] gw D)) ?_;refine pt ?_;refine mq ?_;refine cU (s:=105) rfl (λhb=>?_) (λhb=>?_)
             .replace h:=fo (OG hb) h;refine gm ?_;refine gb (bf (t:=Ti) [(.const (.int .i64 (1)),_),(.const (.int .i64 (2)),_)] [1,2] rfl rfl dX (.cons rfl .int (.cons rfl .int .nil)) rfl rfl) ?_;obtain⟨j,y,h⟩:=aa h;refine gb (aC [.tmp 106,.tmp 107] rfl rfl P0 rfl (ky k l.1 [1,2] j y)) ?_;refine pt ?_;refine aq (nl ?_);exact jz ((),j) h []
             .replace h:=di (OH hb) h;iterate 3 refine gn ?_
              refine pf ?_;refine aq (nl ?_);exact jz ((),false) h []
            .replace h:=di (OH hb) h;iterate 3 refine gn ?_
             refine pf ?_;refine mq ?_;iterate 3 refine gn ?_
             refine pf ?_;refine aq (nl ?_);exact jz ((),false) h []
           .replace h:=di (OH hb) h;iterate 6 refine gn ?_
            refine pf ?_;refine mq ?_;iterate 3 refine gn ?_
            refine pf ?_;refine mq ?_;iterate 3 refine gn ?_
            refine pf ?_;refine aq (nl ?_);exact jz ((),false) h []
          .replace h:=di (vJ hb) h;iterate 8 refine gn ?_
           refine pf ?_;refine mq ?_;iterate 6 refine gn ?_
           refine pf ?_;refine mq ?_;iterate 3 refine gn ?_
           refine pf ?_;refine mq ?_;iterate 3 refine gn ?_
           refine pf ?_;refine aq (nl ?_);exact jz ((),false) h []
         .replace h:=di (vJ hb) h;iterate 2 refine gn ?_
          refine pf ?_;refine mq ?_;iterate 8 refine gn ?_
          refine pf ?_;refine mq ?_;iterate 6 refine gn ?_
          refine pf ?_;refine mq ?_;iterate 3 refine gn ?_
          refine pf ?_;refine mq ?_;iterate 3 refine gn ?_
          refine pf ?_;refine aq (nl ?_);exact jz ((),false) h []
        .replace h:=di (vJ hb) h;iterate 2 refine gn ?_
         refine pf ?_;refine mq ?_;iterate 2 refine gn ?_
         refine pf ?_;refine mq ?_;iterate 8 refine gn ?_
         refine pf ?_;refine mq ?_;iterate 6 refine gn ?_
         refine pf ?_;refine mq ?_;iterate 3 refine gn ?_
         refine pf ?_;refine mq ?_;iterate 3 refine gn ?_
         refine pf ?_;refine aq (nl ?_);exact jz ((),false) h []
       .replace h:=di (vJ hb) h;iterate 3 refine gn ?_
        refine pf ?_;refine mq ?_;iterate 2 refine gn ?_
        refine pf ?_;refine mq ?_;iterate 2 refine gn ?_
        refine pf ?_;refine mq ?_;iterate 8 refine gn ?_
        refine pf ?_;refine mq ?_;iterate 6 refine gn ?_
        refine pf ?_;refine mq ?_;iterate 3 refine gn ?_
        refine pf ?_;refine mq ?_;iterate 3 refine gn ?_
        refine pf ?_;refine aq (nl ?_);exact jz ((),false) h []
      .replace h:=di (vJ hb) h;iterate 2 refine gn ?_
       refine pf ?_;refine mq ?_;iterate 3 refine gn ?_
       refine pf ?_;refine mq ?_;iterate 2 refine gn ?_
       refine pf ?_;refine mq ?_;iterate 2 refine gn ?_
       refine pf ?_;refine mq ?_;iterate 8 refine gn ?_
       refine pf ?_;refine mq ?_;iterate 6 refine gn ?_
       refine pf ?_;refine mq ?_;iterate 3 refine gn ?_
       refine pf ?_;refine mq ?_;iterate 3 refine gn ?_
       refine pf ?_;refine aq (nl ?_);exact jz ((),false) h []
     .replace h:=di (vJ hb) h;iterate 2 refine gn ?_
      refine pf ?_;refine mq ?_;iterate 2 refine gn ?_
      refine pf ?_;refine mq ?_;iterate 3 refine gn ?_
      refine pf ?_;refine mq ?_;iterate 2 refine gn ?_
      refine pf ?_;refine mq ?_;iterate 2 refine gn ?_
      refine pf ?_;refine mq ?_;iterate 8 refine gn ?_
      refine pf ?_;refine mq ?_;iterate 6 refine gn ?_
      refine pf ?_;refine mq ?_;iterate 3 refine gn ?_
      refine pf ?_;refine mq ?_;iterate 3 refine gn ?_
      refine pf ?_;refine aq (nl ?_);exact jz ((),false) h []
    .replace h:=di (vJ hb) h;iterate 2 refine gn ?_
     refine pf ?_;refine mq ?_;iterate 2 refine gn ?_
     refine pf ?_;refine mq ?_;iterate 2 refine gn ?_
     refine pf ?_;refine mq ?_;iterate 3 refine gn ?_
     refine pf ?_;refine mq ?_;iterate 2 refine gn ?_
     refine pf ?_;refine mq ?_;iterate 2 refine gn ?_
     refine pf ?_;refine mq ?_;iterate 8 refine gn ?_
     refine pf ?_;refine mq ?_;iterate 6 refine gn ?_
     refine pf ?_;refine mq ?_;iterate 3 refine gn ?_
     refine pf ?_;refine mq ?_;iterate 3 refine gn ?_
     refine pf ?_;refine aq (nl ?_);exact jz ((),false) h []
   .replace h:=di (vJ hb) h;iterate 2 refine gn ?_
    refine pf ?_;refine mq ?_;iterate 2 refine gn ?_
    refine pf ?_;refine mq ?_;iterate 2 refine gn ?_
    refine pf ?_;refine mq ?_;iterate 2 refine gn ?_
    refine pf ?_;refine mq ?_;iterate 3 refine gn ?_
    refine pf ?_;refine mq ?_;iterate 2 refine gn ?_
    refine pf ?_;refine mq ?_;iterate 2 refine gn ?_
    refine pf ?_;refine mq ?_;iterate 8 refine gn ?_
    refine pf ?_;refine mq ?_;iterate 6 refine gn ?_
    refine pf ?_;refine mq ?_;iterate 3 refine gn ?_
    refine pf ?_;refine mq ?_;iterate 3 refine gn ?_
    refine pf ?_;refine aq (nl ?_);exact jz ((),false) h []
  .replace h:=di (vJ hb) h;iterate 2 refine gn ?_
   refine pf ?_;refine mq ?_;iterate 2 refine gn ?_
   refine pf ?_;refine mq ?_;iterate 2 refine gn ?_
   refine pf ?_;refine mq ?_;iterate 2 refine gn ?_
   refine pf ?_;refine mq ?_;iterate 2 refine gn ?_
   refine pf ?_;refine mq ?_;iterate 3 refine gn ?_
   refine pf ?_;refine mq ?_;iterate 2 refine gn ?_
   refine pf ?_;refine mq ?_;iterate 2 refine gn ?_
   refine pf ?_;refine mq ?_;iterate 8 refine gn ?_
   refine pf ?_;refine mq ?_;iterate 6 refine gn ?_
   refine pf ?_;refine mq ?_;iterate 3 refine gn ?_
   refine pf ?_;refine mq ?_;iterate 3 refine gn ?_
   refine pf ?_;refine aq (nl ?_);exact jz ((),false) h []
 .
  refine aF ?_;cases h;exact ra
def bV(k:Nat)(r6:(List Int)×ba)(r7:ae)(e:Int×(List (List (List Int))))(j:Int×(List (List (List Int))))(h:(List Int)):Nat->(Int×(List (List (List Int))))->Option (List (List (List Int)))
 |0,_=>none
 |n+1,c=>
  if c.1 < (h.length:Int) then((aG c.2 e.1).bind λr=>
  (aG r7.2.2.2.2.1 e.1).bind λF=>
  (aG r j.1).bind λl=>
  (ck ((h.length:Int) - 1)).bind λD=>
  (ck (D - c.1)).bind λy=>
  (aG h y).bind λx=>
  (aG r6.1 x).bind λu=>
  (aG l c.1).bind λE=>
  (ck (c.1+1)).bind λs=>
  bV k r6 r7 e j h n (s,List.set c.2 (Int.toNat e.1) (List.set r (Int.toNat j.1) (List.set l (Int.toNat c.1) u)))) else(some c.2)
def co(k:Nat)(r3:ae×ba)(r6:(List Int)×ba)(r7:ae)(e:Int×(List (List (List Int)))):Nat->(Int×(List (List (List Int))))->Option (List (List (List Int)))
 |0,_=>none
 |n+1,c=>
  (aG c.2 e.1).bind λs=>
  (aG r7.2.2.2.2.1 e.1).bind λu=>
  if c.1 < (s.length:Int) then((((aG r3.1.2.2.2.2.1 e.1).bind λl=>
  (aG l c.1).bind λj=>
  bV k r6 r7 e c j k (0,c.2)):Option ((List (List (List Int))))).bind λr=>
  (ck (c.1+1)).bind λh=>
  co k r3 r6 r7 e n (h,r)) else(some c.2)
def bW(k:Nat)(r3:ae×ba)(r6:(List Int)×ba)(r7:ae):Nat->(Int×(List (List (List Int))))->Option (List (List (List Int)))
 |0,_=>none
 |n+1,c=>
  if c.1 < (r7.2.2.2.2.1.length:Int) then(((co k r3 r6 r7 c k (0,c.2)):Option ((List (List (List Int))))).bind λh=>
  (ck (c.1+1)).bind λe=>
  bW k r3 r6 r7 n (e,h)) else(some c.2)
def bU(k:Nat)(r3:ae×ba)(r6:(List Int)×ba):Nat->((List an)×Int)->Option (List an)
 |0,_=>none
 |n+1,c=>
  if c.2 < (c.1.length:Int) then((aG r3.1.2.2.2.2.2 c.2).bind λl=>
  (aG r6.1 l.1).bind λj=>
  (aG c.1 c.2).bind λe=>
  (ck (c.2+1)).bind λh=>
  bU k r3 r6 n (List.set c.1 (Int.toNat c.2) (j,e.2.1,e.2.2),h)) else(some c.1)
def bT(k:Nat)(r3:ae×ba)(r5:(List Int)×ba)(r6:(List Int)×ba):Nat->((List Int)×Int)->Option (List Int)
 |0,_=>none
 |n+1,c=>
  if c.2 < r3.1.1 then((((lD k r6.1 c.2).bind λl=>
  (lD k r5.1 l).bind λj=>
  if 0≤j then((cM (bN (length c.1+length [c.2]))).bind λ_=>
  some (c.1++[c.2])) else(some c.1)):Option ((List Int))).bind λh=>
  (ck (c.2+1)).bind λe=>
  bT k r3 r5 r6 n (h,e)) else(some c.1)
def cQ(k:Nat)(r3:ae×ba)(r6:(List Int)×ba)(j:(List (List Int))×Int)(h:(List (List Int))×Int)(e:Int):Nat->Int->Option (Except Bool Unit)
 |0,_=>none
 |n+1,c=>
  if c < r3.1.1 then((aG j.1 e).bind λy=>
  (aG y c).bind λx=>
  (aG h.1 e).bind λu=>
  (aG r6.1 c).bind λs=>
  (aG u s).bind λr=>
  if¬(x=r) then(some (.error false)) else((ck (c+1)).bind λl=>
  cQ k r3 r6 j h e n l)) else(some (.ok ()))
def cR(k:Nat)(r3:ae×ba)(r6:(List Int)×ba)(h:(List (List Int))×Int)(j:(List (List Int))×Int):Nat->Int->Option (Except Bool Unit)
 |0,_=>none
 |n+1,c=>
  if c < (h.1.length:Int) then(bE (α:=Unit) (cQ k r3 r6 h j c k 0) (λe=>some (.error e)) λ_=>
  (ck (c+1)).bind λl=>
  cR k r3 r6 h j n l) else(some (.ok ()))
def hH(k:Nat)(a0:(List Int)):Option Bool:=
 (l9 k a0).bind λr1=>
 (gz k (r1.1,r1.2.1,r1.2.2) 4 4).bind λr3=>
 (iO k (r3.2.1,r3.2.2.1,r3.2.2.2) r3.1.1).bind λr5=>
 (eK k (r5.2.1,r5.2.2.1,r5.2.2.2) r3.1.1).bind λr6=>
 (ir k r3.1).bind λr7=>
 ((bW k r3 r6 r7 k (0,r7.2.2.2.2.1)):Option ((List (List (List Int))))).bind λc=>
 (cM (length c=length r7.2.2.2.2.1)).bind λ_=>
 ((bU k r3 r6 k (r7.2.2.2.2.2,0)):Option ((List an))).bind λj=>
 ((bT k r3 r5 r6 k (([]:(List Int)),0)):Option ((List Int))).bind λs=>
 (fj k r3.1 r5.1).bind λh=>
 (fj k (r7.1,r7.2.1,r7.2.2.1,r7.2.2.2.1,c,j) s).bind λe=>
 (gd k r3.1).bind λn=>
 (gd k (r7.1,r7.2.1,r7.2.2.1,r7.2.2.2.1,c,j)).bind λl=>
 ((if¬(h.2=0) then(some true) else(if¬(e.2=0) then(some true) else(if¬(n.2=0) then(some true) else(if¬(l.2=0) then(some true) else(if¬((n.1.length:Int)=(l.1.length:Int)) then(some true) else((fC k r3.1 h.1).bind λy=>
 if¬(y=true) then(some true) else((fC k r3.1 e.1).bind λx=>
 some (!x)))))))):Option (Bool)).bind λr=>
 if r=true then(some false) else(bE (α:=Unit) (cR k r3 r6 h e k 0) (some) λ_=>
 (rK k).bind λu=>
 some u)
theorem pL(k:Nat)(a0:(List Int))(r:Bool)(h:hH k a0=some r):
 cz (ec Tryz.prog) 3 [.rep Tl a0] [] (λ_:Unit=>(bO [.eq (.bool r)],[])):=by
 unfold hH at h
 replace h:=bp h
 refine cz.of 214 Tryz.func3 rfl Tryz.ntmps3 rfl λS w0=>?_
 refine sr ?_
 refine cq ?_
 refine nt ?_
 refine sr ?_
 refine mq ?_
 obtain⟨r1,W7,h⟩:=aa h
 have Xc:=vc k a0 r1 W7
 refine aX rfl rfl rfl (aC [.tmp 25] rfl rfl Vx rfl Xc) ⟨rfl,trivial⟩ λb2=>?_
 refine aq ?_
 refine nt ?_
 refine sr ?_
 refine mq ?_
 obtain⟨r3,W6,h⟩:=aa h
 have Xb:=sZ k (r1.1,r1.2.1,r1.2.2) b2 4 4 r3 W6
 refine kc (aC [.tmp 27,.const (.int .i64 (4)),.const (.int .i64 (4))] rfl rfl Vw rfl Xb) ?_
 refine aX rfl rfl rfl (bo rfl vS AW) trivial λb4=>?_
 refine aP rfl rfl (aM rfl gC rfl rfl rfl) ⟨rfl,rfl,trivial⟩ ?_
 refine nt ?_
 refine am ?_
 refine cN ?_
 refine dm ?_
 refine da (aA rfl ge) ?_
 refine ea 0 (ax rfl cL nY rfl) ?_
 obtain⟨r5,W5,h⟩:=aa h
 have Xa:=ve k (r3.2.1,r3.2.2.1,r3.2.2.2) b2 r3.1.1 r5 W5
 refine yU 1 rfl rfl rfl rfl (aC [.tmp 29,.tmp 31] rfl rfl Vv rfl Xa) ⟨rfl,rfl,trivial⟩ ?_
 refine dm ?_
 refine da (aA rfl ge) ?_
 refine ea 0 (ax rfl cL nY rfl) ?_
 refine yX (Δ':=[.obj b4 28 (.rep ap r3.1),.obj b2 46 (.agg (.pair (.rep Tl r5.2.1) (.pair (I r5.2.2.1) (.eq (.int .u64 r5.2.2.2)))))]) (by kernel_rfl) d4 (by kernel_rfl) ?_
 obtain⟨r6,W4,h⟩:=aa h
 have W9:=ma k (r5.2.1,r5.2.2.1,r5.2.2.2) b2 r3.1.1 r6 W4
 refine fr 1 ?_
 refine kb (aC [.tmp 33,.tmp 35] rfl rfl Vg rfl W9) ?_
 refine aq ?_
 refine aq ?_
 refine nt ?_
 refine sr ?_
 refine fr 1 ?_
 refine lo gC ?_
 obtain⟨r7,W3,h⟩:=aa h
 have W8:=rL k r3.1 r7 W3
 refine aO (Δ:=[]) (F:=[.obj b4 28 (.rep ap r3.1),.obj b2 46 (.agg (.pair (.rep Tl r6.2.1) (.pair (I r6.2.2.1) (.eq (.int .u64 r6.2.2.2)))))]) (λ_ _ _=>ag rfl _) rfl rfl (aC [.tmp 37] rfl rfl Vu rfl W8) ⟨rfl,trivial⟩ λz8=>?_
 refine dM (SE.pp (Δ':=[.sl z8.1 33 .val (dc z8.2.2.1 0 r7.2.2.2.2.1),.sl z8.2.1 35 ah r7.2.2.2.2.2,.obj b4 28 (.rep ap r3.1),.obj b2 46 (.agg (.pair (.rep Tl r6.2.1) (.pair (I r6.2.2.1) (.eq (.int .u64 r6.2.2.2)))))]++eU 22 z8.2.2.1 z8.2.2.2 0 r7.2.2.2.2.1) (MG (A:=[.sl z8.1 33 .val (dc z8.2.2.1 0 r7.2.2.2.2.1),.sl z8.2.1 35 ah r7.2.2.2.2.2]) (F:=[.obj b4 28 (.rep ap r3.1),.obj b2 46 (.agg (.pair (.rep Tl r6.2.1) (.pair (I r6.2.2.1) (.eq (.int .u64 r6.2.2.2)))))]))) ?_
 refine aX rfl rfl rfl (bo rfl vS AW) trivial λb9=>?_
 refine aP rfl rfl (aM rfl gC trivial rfl rfl) ⟨rfl,rfl,trivial⟩ ?_
 refine nt ?_
 refine aJ (Z:=Unit) (α:=(List (List (List Int)))) (λV3 u=>[(4,Pt b4),(5,.rep Tl r5.1),(6,.rep Tl r6.1),(7,Pt b9)]) (λV3 u=>[.obj b4 28 (.rep ap r3.1),.obj b9 28 (.agg (.pair (I r7.1) (.pair (I r7.2.1) (.pair (I r7.2.2.1) (.pair (I r7.2.2.2.1) (.pair (.eq z8.1) (.eq z8.2.1))))))),.sl z8.1 33 .val (dc z8.2.2.1 0 r7.2.2.2.2.1),.sl z8.2.1 35 ah r7.2.2.2.2.2]++eU 22 z8.2.2.1 z8.2.2.2 0 u) h (λK h=>?_) (λV3 u h=>?_)
 .
  refine sr (cq (nt (ak ?_)));refine aH (Z:=Unit) (α:=Int×(List (List (List Int)))) (λV2 c=>[(4,Pt b4),(5,.rep Tl r5.1),(6,.rep Tl r6.1),(7,Pt b9),(8,I c.1)]) (λV2 c=>[.obj b4 28 (.rep ap r3.1),.obj b9 28 (.agg (.pair (I r7.1) (.pair (I r7.2.1) (.pair (I r7.2.2.1) (.pair (I r7.2.2.2.1) (.pair (.eq z8.1) (.eq z8.2.1))))))),.sl z8.1 33 .val (dc z8.2.2.1 0 r7.2.2.2.2.1),.sl z8.2.1 35 ah r7.2.2.2.2.2]++eU 22 z8.2.2.1 z8.2.2.2 0 c.2) (bW k r3 r6 r7) k () (0,r7.2.2.2.2.1) (λ_=>rfl) h (dL [.obj b9 28 (.agg (.pair (I r7.1) (.pair (I r7.2.1) (.pair (I r7.2.2.1) (.pair (I r7.2.2.2.1) (.pair (.eq z8.1) (.eq z8.2.1))))))),.sl z8.1 33 .val (dc z8.2.2.1 0 r7.2.2.2.2.1),.sl z8.2.1 35 ah r7.2.2.2.2.2,.obj b4 28 (.rep ap r3.1),.obj b2 46 (.agg (.pair (.rep Tl r6.2.1) (.pair (I r6.2.2.1) (.eq (.int .u64 r6.2.2.2)))))] (eU 22 z8.2.2.1 z8.2.2.2 0 r7.2.2.2.2.1) [3,0,1,2] ⟨rfl,rfl,rfl,rfl,rfl,trivial⟩ rfl) (λn V2 c h=>?_);unfold bW at h;refine am (sr (mq ?_));refine fl cS ?_;refine fr 1 ?_;refine lo gG ?_;refine fr 2 ?_;refine ka (H7 rfl rfl xw) ?_;refine jb (bG rfl) ?_;refine nt (ci h (λh=>?_) (λh=>?_))
  .refine sk (aJ (Z:=Unit) (α:=(List (List (List Int)))) (λV0 zz=>[(4,Pt b4),(5,.rep Tl r5.1),(6,.rep Tl r6.1),(7,Pt b9),(8,I c.1)]) (λV0 zz=>[.obj b4 28 (.rep ap r3.1),.obj b9 28 (.agg (.pair (I r7.1) (.pair (I r7.2.1) (.pair (I r7.2.2.1) (.pair (I r7.2.2.2.1) (.pair (.eq z8.1) (.eq z8.2.1))))))),.sl z8.1 33 .val (dc z8.2.2.1 0 r7.2.2.2.2.1),.sl z8.2.1 35 ah r7.2.2.2.2.2]++eU 22 z8.2.2.1 z8.2.2.2 0 zz) h (λK h=>?_) (λV0 zz h=>?_))
   .refine ak (sr (cq (nt (ak ?_))));refine aH (Z:=Unit) (α:=Int×(List (List (List Int)))) (λVZ j=>[(4,Pt b4),(5,.rep Tl r5.1),(6,.rep Tl r6.1),(7,Pt b9),(8,I c.1),(9,I j.1)]) (λVZ j=>[.obj b4 28 (.rep ap r3.1),.obj b9 28 (.agg (.pair (I r7.1) (.pair (I r7.2.1) (.pair (I r7.2.2.1) (.pair (I r7.2.2.2.1) (.pair (.eq z8.1) (.eq z8.2.1))))))),.sl z8.1 33 .val (dc z8.2.2.1 0 r7.2.2.2.2.1),.sl z8.2.1 35 ah r7.2.2.2.2.2]++eU 22 z8.2.2.1 z8.2.2.2 0 j.2) (co k r3 r6 r7 c) k () (0,c.2) (λ_=>rfl) h (dL [.sl z8.1 33 .val (dc z8.2.2.1 0 r7.2.2.2.2.1),.obj b9 28 (.agg (.pair (I r7.1) (.pair (I r7.2.1) (.pair (I r7.2.2.1) (.pair (I r7.2.2.2.1) (.pair (.eq z8.1) (.eq z8.2.1))))))),.obj b4 28 (.rep ap r3.1),.sl z8.2.1 35 ah r7.2.2.2.2.2] (eU 22 z8.2.2.1 z8.2.2.2 0 c.2) [2,1,0,3] ⟨rfl,rfl,rfl,rfl,rfl,rfl,trivial⟩ rfl) (λn VZ j h=>?_);unfold co at h;refine am (am ?_);obtain⟨Xq,VL,h⟩:=aa h;obtain⟨Xp,VK,h⟩:=aa h;refine fL (xA (pre:=[.obj b4 28 (.rep ap r3.1),.obj b9 28 (.agg (.pair (I r7.1) (.pair (I r7.2.1) (.pair (I r7.2.2.1) (.pair (I r7.2.2.2.1) (.pair (.eq z8.1) (.eq z8.2.1))))))),.sl z8.1 33 .val (dc z8.2.2.1 0 r7.2.2.2.2.1),.sl z8.2.1 35 ah r7.2.2.2.2.2]) (mf VL).2) ?_;refine ab (mq ?_);refine fl cS ?_;refine fr 2 ?_;refine lo gG ?_;refine mq ?_;refine fr 3 ?_;refine kb (bJ (t:=.val) rfl xw mP (qS VK)) ?_;refine ka (eR (i:=Int.toNat c.1) (off:=0) rfl mP (λ_=>rfl) rfl (cP (qS VK)).2.2 rfl) ?_;refine fr 2 ?_;refine ka (H8 rfl rfl qP) ?_;refine jb (bG rfl) ?_;refine aD (bK (Dm (pre:=[.sl z8.1 33 .val (dc z8.2.2.1 0 r7.2.2.2.2.1),.obj b9 28 (.agg (.pair (I r7.1) (.pair (I r7.2.1) (.pair (I r7.2.2.1) (.pair (I r7.2.2.2.1) (.pair (.eq z8.1) (.eq z8.2.1))))))),.obj b4 28 (.rep ap r3.1),.sl z8.2.1 35 ah r7.2.2.2.2.2]) (mf VL).2) ?_);refine tn (ci h (λh=>?_) (λh=>?_))
    .refine sk (aJ (Z:=Unit) (α:=(List (List (List Int)))) (λVY qt=>[(4,Pt b4),(5,.rep Tl r5.1),(6,.rep Tl r6.1),(7,Pt b9),(8,I c.1),(9,I j.1)]) (λVY qt=>[.obj b4 28 (.rep ap r3.1),.obj b9 28 (.agg (.pair (I r7.1) (.pair (I r7.2.1) (.pair (I r7.2.2.1) (.pair (I r7.2.2.2.1) (.pair (.eq z8.1) (.eq z8.2.1))))))),.sl z8.1 33 .val (dc z8.2.2.1 0 r7.2.2.2.2.1),.sl z8.2.1 35 ah r7.2.2.2.2.2]++eU 22 z8.2.2.1 z8.2.2.2 0 qt) h (λK h=>?_) (λVY qt h=>?_))
     .refine ak (sr (fl cS ?_));refine fr 2 ?_;refine lo gG ?_;refine mq ?_;obtain⟨Xo,Wz,h⟩:=aa h;refine jb (aU (t:=(.slice Tl)) rfl xw mP Wz) ?_;refine ja (ay (t:=(.slice Tl)) rfl mP rfl) ?_;refine mq ?_;obtain⟨mw,Wy,h⟩:=aa h;refine jb (aU (t:=Tl) rfl qP ii Wy) ?_;refine ja (ay (t:=Tl) rfl ii rfl) ?_;refine aq (nt (sr ?_));refine cq (nt (ak ?_));refine aH (Z:=Unit) (α:=Int×(List (List (List Int)))) (λVX l=>[(4,Pt b4),(5,.rep Tl r5.1),(6,.rep Tl r6.1),(7,Pt b9),(8,I c.1),(9,I j.1),(10,.rep Tl mw),(11,I l.1)]) (λVX l=>[.obj b4 28 (.rep ap r3.1),.obj b9 28 (.agg (.pair (I r7.1) (.pair (I r7.2.1) (.pair (I r7.2.2.1) (.pair (I r7.2.2.2.1) (.pair (.eq z8.1) (.eq z8.2.1))))))),.sl z8.1 33 .val (dc z8.2.2.1 0 r7.2.2.2.2.1),.sl z8.2.1 35 ah r7.2.2.2.2.2]++eU 22 z8.2.2.1 z8.2.2.2 0 l.2) (bV k r6 r7 c j mw) k () (0,j.2) (λ_=>rfl) h (dL [.obj b4 28 (.rep ap r3.1),.sl z8.1 33 .val (dc z8.2.2.1 0 r7.2.2.2.2.1),.obj b9 28 (.agg (.pair (I r7.1) (.pair (I r7.2.1) (.pair (I r7.2.2.1) (.pair (I r7.2.2.2.1) (.pair (.eq z8.1) (.eq z8.2.1))))))),.sl z8.2.1 35 ah r7.2.2.2.2.2] (eU 22 z8.2.2.1 z8.2.2.2 0 j.2) [0,2,1,3] ⟨rfl,rfl,rfl,rfl,rfl,rfl,rfl,rfl,trivial⟩ rfl) (λn VX l h=>?_);unfold bV at h;refine am (sr ?_);iterate 2 refine mq ?_
      refine ol ix ?_;refine jb (bG rfl) ?_;refine nt (ci h (λh=>?_) (λh=>?_))
      .refine sk (am (ak ?_));obtain⟨J,VJ,h⟩:=aa h;obtain⟨Xn,VI,h⟩:=aa h;obtain⟨Y,Q,h⟩:=aa h;refine fL (Dl (pre:=[.obj b4 28 (.rep ap r3.1),.obj b9 28 (.agg (.pair (I r7.1) (.pair (I r7.2.1) (.pair (I r7.2.2.1) (.pair (I r7.2.2.2.1) (.pair (.eq z8.1) (.eq z8.2.1))))))),.sl z8.1 33 .val (dc z8.2.2.1 0 r7.2.2.2.2.1),.sl z8.2.1 35 ah r7.2.2.2.2.2]) (mf VJ).2 (mf Q).2) ?_;obtain⟨Xm,Wx,h⟩:=aa h;obtain⟨Xl,Wv,h⟩:=aa h;obtain⟨Xk,Wu,h⟩:=aa h;obtain⟨mt,Wt,h⟩:=aa h;obtain⟨Xj,VH,h⟩:=aa h;refine Bd (Δ:=[.sl (z8.2.2.2 (Int.toNat c.1) (Int.toNat j.1)) 3 Ti Y,.sl (z8.2.2.1 (Int.toNat c.1)) 22 .val (jl (z8.2.2.2 (Int.toNat c.1)) 0 J),.obj b4 28 (.rep ap r3.1),.obj b9 28 (.agg (.pair (I r7.1) (.pair (I r7.2.1) (.pair (I r7.2.2.1) (.pair (I r7.2.2.2.1) (.pair (.eq z8.1) (.eq z8.2.1))))))),.sl z8.1 33 .val (dc z8.2.2.1 0 r7.2.2.2.2.1),.sl z8.2.1 35 ah r7.2.2.2.2.2]) (F:=(kg (z8.2.2.2 (Int.toNat c.1)) 0 J).eraseIdx (Int.toNat j.1)++Je 22 z8.2.2.1 z8.2.2.2 (Int.toNat c.1) l.2) (Z:=Unit) (λi=>[(4,Pt b4),(5,.rep Tl r5.1),(6,.rep Tl r6.1),(7,Pt b9),(8,I c.1),(9,I j.1),(10,.rep Tl mw),(11,I l.1)]) (λi=>[.sl (z8.2.2.2 (Int.toNat c.1) (Int.toNat j.1)) 3 Ti (List.set Y (Int.toNat l.1) mt),.sl (z8.2.2.1 (Int.toNat c.1)) 22 .val (jl (z8.2.2.2 (Int.toNat c.1)) 0 J),.obj b4 28 (.rep ap r3.1),.obj b9 28 (.agg (.pair (I r7.1) (.pair (I r7.2.1) (.pair (I r7.2.2.1) (.pair (I r7.2.2.2.1) (.pair (.eq z8.1) (.eq z8.2.1))))))),.sl z8.1 33 .val (dc z8.2.2.1 0 r7.2.2.2.2.1),.sl z8.2.1 35 ah r7.2.2.2.2.2]) (λS w=>?_) (λi=>?_)
       .refine cN ?_;refine da (aA rfl cS) ?_;refine ea 3 (ax rfl gG nY rfl) ?_;refine dm ?_;refine eb 4 (bJ (t:=.val) rfl xw mP (qS VI)) ?_;refine ea 4 (eR (i:=Int.toNat c.1) (off:=0) rfl mP (λ_=>rfl) rfl (cP (qS VI)).2.2 rfl) ?_;refine dm ?_;refine eb 1 (bJ (t:=.val) rfl qP ii (pe Q)) ?_;refine ea 1 (eR (i:=Int.toNat j.1) (off:=0) rfl ii (λ_=>rfl) rfl (cP (pe Q)).2.2 rfl) ?_;refine dm ?_;refine dm ?_;refine dm ?_;refine dm ?_;refine da (nP rfl rfl ix) ?_;refine db (eA rfl Wx) ?_;refine dm ?_;refine db (eA rfl Wv) ?_;refine db (aU (t:=Ti) rfl ix cL Wu) ?_;refine da (ay (t:=Ti) rfl cL rfl) ?_;refine db (aU (t:=Ti) rfl ix cL Wt) ?_;refine da (ay (t:=Ti) rfl cL rfl) ?_;refine df d4 ?_;refine kb (bJ (t:=Ti) rfl ix cL VH) ?_;refine aP rfl rfl (fO (i:=Int.toNat l.1) rfl cL rfl (mg VH) rfl .int rfl) ⟨rfl,rfl,trivial⟩ ?_;refine aD ?_;exact λa w st=>⟨rfl,(),(SE.fin (Γ':=[(4,Pt b4),(5,.rep Tl r5.1),(6,.rep Tl r6.1),(7,Pt b9),(8,I c.1),(9,I j.1),(10,.rep Tl mw),(11,I l.1)]) (Δ':=[.sl (z8.2.2.2 (Int.toNat c.1) (Int.toNat j.1)) 3 Ti (List.set Y (Int.toNat l.1) mt),.sl (z8.2.2.1 (Int.toNat c.1)) 22 .val (jl (z8.2.2.2 (Int.toNat c.1)) 0 J),.obj b4 28 (.rep ap r3.1),.obj b9 28 (.agg (.pair (I r7.1) (.pair (I r7.2.1) (.pair (I r7.2.2.1) (.pair (I r7.2.2.2.1) (.pair (.eq z8.1) (.eq z8.2.1))))))),.sl z8.1 33 .val (dc z8.2.2.1 0 r7.2.2.2.2.1),.sl z8.2.1 35 ah r7.2.2.2.2.2]) [0,1,2,3,4,5] ⟨rfl,rfl,rfl,rfl,rfl,rfl,rfl,rfl,trivial⟩ rfl) a w st⟩
       .show JN _ _ [(4,Pt b4),(5,.rep Tl r5.1),(6,.rep Tl r6.1),(7,Pt b9),(8,I c.1),(9,I j.1),(10,.rep Tl mw),(11,I l.1)] ([.sl (z8.2.2.2 (Int.toNat c.1) (Int.toNat j.1)) 3 Ti (List.set Y (Int.toNat l.1) mt),.sl (z8.2.2.1 (Int.toNat c.1)) 22 .val (jl (z8.2.2.2 (Int.toNat c.1)) 0 J),.obj b4 28 (.rep ap r3.1),.obj b9 28 (.agg (.pair (I r7.1) (.pair (I r7.2.1) (.pair (I r7.2.2.1) (.pair (I r7.2.2.2.1) (.pair (.eq z8.1) (.eq z8.2.1))))))),.sl z8.1 33 .val (dc z8.2.2.1 0 r7.2.2.2.2.1),.sl z8.2.1 35 ah r7.2.2.2.2.2]++((kg (z8.2.2.2 (Int.toNat c.1)) 0 J).eraseIdx (Int.toNat j.1)++Je 22 z8.2.2.1 z8.2.2.2 (Int.toNat c.1) l.2));refine bv 1 rfl ?_;refine bv 1 rfl ?_;refine bK (A5 (pre:=[.obj b4 28 (.rep ap r3.1),.obj b9 28 (.agg (.pair (I r7.1) (.pair (I r7.2.1) (.pair (I r7.2.2.1) (.pair (I r7.2.2.2.1) (.pair (.eq z8.1) (.eq z8.2.1))))))),.sl z8.1 33 .val (dc z8.2.2.1 0 r7.2.2.2.2.1),.sl z8.2.1 35 ah r7.2.2.2.2.2]) (mf VJ).2 (mf Q).2) ?_;refine aR (tn (ab (mq ?_)));obtain⟨WW,Ws,h⟩:=aa h;refine jb (bA rfl Ws) ?_;refine aq (nl ?_);exact mJ ((),(WW,List.set l.2 (Int.toNat c.1) (List.set J (Int.toNat j.1) (List.set Y (Int.toNat l.1) mt)))) h (dL [.obj b4 28 (.rep ap r3.1),.obj b9 28 (.agg (.pair (I r7.1) (.pair (I r7.2.1) (.pair (I r7.2.2.1) (.pair (I r7.2.2.2.1) (.pair (.eq z8.1) (.eq z8.2.1))))))),.sl z8.1 33 .val (dc z8.2.2.1 0 r7.2.2.2.2.1),.sl z8.2.1 35 ah r7.2.2.2.2.2] (eU 22 z8.2.2.1 z8.2.2.2 0 (List.set l.2 (Int.toNat c.1) (List.set J (Int.toNat j.1) (List.set Y (Int.toNat l.1) mt)))) [0,1,2,3] ⟨rfl,rfl,rfl,rfl,rfl,rfl,rfl,rfl,trivial⟩ rfl)
      .refine eO (bi (bi (cT (bn ?_))));exact mJ ((),l.2) h (dL [.obj b4 28 (.rep ap r3.1),.obj b9 28 (.agg (.pair (I r7.1) (.pair (I r7.2.1) (.pair (I r7.2.2.1) (.pair (I r7.2.2.2.1) (.pair (.eq z8.1) (.eq z8.2.1))))))),.sl z8.1 33 .val (dc z8.2.2.1 0 r7.2.2.2.2.1),.sl z8.2.1 35 ah r7.2.2.2.2.2] (eU 22 z8.2.2.1 z8.2.2.2 0 l.2) [0,1,2,3] ⟨rfl,rfl,rfl,rfl,rfl,rfl,trivial⟩ rfl)
     .refine ab (mq ?_);obtain⟨WU,Wq,h⟩:=aa h;refine jb (bA rfl Wq) ?_;refine aq (nl ?_);exact mJ ((),(WU,qt)) h (dL [.obj b4 28 (.rep ap r3.1),.obj b9 28 (.agg (.pair (I r7.1) (.pair (I r7.2.1) (.pair (I r7.2.2.1) (.pair (I r7.2.2.2.1) (.pair (.eq z8.1) (.eq z8.2.1))))))),.sl z8.1 33 .val (dc z8.2.2.1 0 r7.2.2.2.2.1),.sl z8.2.1 35 ah r7.2.2.2.2.2] (eU 22 z8.2.2.1 z8.2.2.2 0 qt) [0,1,2,3] ⟨rfl,rfl,rfl,rfl,rfl,rfl,trivial⟩ rfl)
    .refine eO (bi (bi (cT (bn ?_))));exact mJ ((),j.2) h (dL [.sl z8.1 33 .val (dc z8.2.2.1 0 r7.2.2.2.2.1),.obj b9 28 (.agg (.pair (I r7.1) (.pair (I r7.2.1) (.pair (I r7.2.2.1) (.pair (I r7.2.2.2.1) (.pair (.eq z8.1) (.eq z8.2.1))))))),.obj b4 28 (.rep ap r3.1),.sl z8.2.1 35 ah r7.2.2.2.2.2] (eU 22 z8.2.2.1 z8.2.2.2 0 j.2) [2,1,0,3] ⟨rfl,rfl,rfl,rfl,rfl,trivial⟩ rfl)
   .refine ab (mq ?_);obtain⟨WT,Wp,h⟩:=aa h;refine jb (bA rfl Wp) ?_;refine aq (nl ?_);exact mJ ((),(WT,zz)) h (dL [.obj b4 28 (.rep ap r3.1),.obj b9 28 (.agg (.pair (I r7.1) (.pair (I r7.2.1) (.pair (I r7.2.2.1) (.pair (I r7.2.2.2.1) (.pair (.eq z8.1) (.eq z8.2.1))))))),.sl z8.1 33 .val (dc z8.2.2.1 0 r7.2.2.2.2.1),.sl z8.2.1 35 ah r7.2.2.2.2.2] (eU 22 z8.2.2.1 z8.2.2.2 0 zz) [0,1,2,3] ⟨rfl,rfl,rfl,rfl,rfl,trivial⟩ rfl)
  .refine xa ?_;exact mJ ((),c.2) h (dL [.sl z8.1 33 .val (dc z8.2.2.1 0 r7.2.2.2.2.1),.obj b9 28 (.agg (.pair (I r7.1) (.pair (I r7.2.1) (.pair (I r7.2.2.1) (.pair (I r7.2.2.2.1) (.pair (.eq z8.1) (.eq z8.2.1))))))),.obj b4 28 (.rep ap r3.1),.sl z8.2.1 35 ah r7.2.2.2.2.2] (eU 22 z8.2.2.1 z8.2.2.2 0 c.2) [2,1,0,3] ⟨rfl,rfl,rfl,rfl,trivial⟩ rfl)
 .
  obtain⟨Xs,WB,h⟩:=aa h;refine dE 2 rfl ?_;refine fL (JI (pre:=[.obj b4 28 (.rep ap r3.1),.obj b9 28 (.agg (.pair (I r7.1) (.pair (I r7.2.1) (.pair (I r7.2.2.1) (.pair (I r7.2.2.2.1) (.pair (.eq z8.1) (.eq z8.2.1))))))),.sl z8.2.1 35 ah r7.2.2.2.2.2]) (au WB)) ?_;refine aJ (Z:=Unit) (α:=(List an)) (λVV y=>[(4,Pt b4),(5,.rep Tl r5.1),(6,.rep Tl r6.1),(7,Pt b9)]) (λVV y=>[.obj b4 28 (.rep ap r3.1),.obj b9 28 (.agg (.pair (I r7.1) (.pair (I r7.2.1) (.pair (I r7.2.2.1) (.pair (I r7.2.2.2.1) (.pair (.eq z8.1) (.eq z8.2.1))))))),.sl z8.1 33 (.slice Tl) u,.sl z8.2.1 35 ah y]) h (λK h=>?_) (λVV y h=>?_)
  .refine sr (cq (nt (ak ?_)));refine aH (Z:=Unit) (α:=(List an)×Int) (λVU E=>[(4,Pt b4),(5,.rep Tl r5.1),(6,.rep Tl r6.1),(7,Pt b9),(12,I E.2)]) (λVU E=>[.obj b4 28 (.rep ap r3.1),.obj b9 28 (.agg (.pair (I r7.1) (.pair (I r7.2.1) (.pair (I r7.2.2.1) (.pair (I r7.2.2.2.1) (.pair (.eq z8.1) (.eq z8.2.1))))))),.sl z8.1 33 (.slice Tl) u,.sl z8.2.1 35 ah E.1]) (bU k r3 r6) k () (r7.2.2.2.2.2,0) (λ_=>rfl) h (SE.fin [1,2,0,3] ⟨rfl,rfl,rfl,rfl,rfl,trivial⟩ rfl) (λn VU E h=>?_);unfold bU at h;refine am (sr (mq ?_));refine fl mE ?_;refine fr 1 ?_;refine lo vW ?_;refine fr 3 ?_;refine ka (iL rfl rfl Oj) ?_;refine jb (bG rfl) ?_;refine nt (ci h (λh=>?_) (λh=>?_))
   .refine sk (am (ak (cN ?_)));refine da (aA rfl mE) ?_;refine ea 1 (ax rfl vW nY rfl) ?_;refine dm ?_;refine dm ?_;refine da (aA rfl mE) ?_;refine ea 2 (ax rfl vW nY rfl) ?_;refine dm ?_;obtain⟨Xi,Wn,h⟩:=aa h;refine db (aU (t:=ah) rfl Oj sw Wn) ?_;refine da (BX 1 false rfl yw rfl) ?_;refine da (ay (t:=Ti) rfl cL rfl) ?_;obtain⟨WS,Wm,h⟩:=aa h;refine db (aU (t:=Ti) rfl ix cL Wm) ?_;refine da (ay (t:=Ti) rfl cL rfl) ?_;refine df d4 ?_;obtain⟨V6,VE,h⟩:=aa h;refine kb (bJ (t:=ah) rfl Oj sw VE) ?_;refine ka (BW rfl yw (L0 VE)) ?_;refine aP rfl rfl (uR (i:=Int.toNat E.2) (off:=0) rfl cL rfl (cP VE).2.2 .int rfl (.agg (.left .whole))) ⟨rfl,rfl,trivial⟩ ?_;refine aD (aR (tn (ab (mq ?_))));obtain⟨WR,Wj,h⟩:=aa h;refine jb (bA rfl Wj) ?_;refine aq (nl ?_);exact jz ((),(List.set E.1 (Int.toNat E.2) (WS,V6.2.1,V6.2.2),WR)) h [2,1,3,0]
   .refine xa ?_;exact jz ((),E.1) h [2,1,3,0]
  .refine sr (cq (nt ?_));refine aJ (Z:=Value) (α:=(List Int)) (λVF mc=>[(4,Pt b4),(5,.rep Tl r5.1),(6,.rep Tl r6.1),(7,Pt b9),(13,.eq VF)]) (λVF mc=>[.obj b4 28 (.rep ap r3.1),.obj b9 28 (.agg (.pair (I r7.1) (.pair (I r7.2.1) (.pair (I r7.2.2.1) (.pair (I r7.2.2.2.1) (.pair (.eq z8.1) (.eq z8.2.1))))))),.sl z8.1 33 (.slice Tl) u,.sl z8.2.1 35 ah y,.sl VF 3 Ti mc]) h (λK h=>?_) (λVF mc h=>?_)
   .refine sr (cq (nt (ak ?_)));refine fL (SE.nil 3 Ti) ?_;refine aH (Z:=Value) (α:=(List Int)×Int) (λU D=>[(4,Pt b4),(5,.rep Tl r5.1),(6,.rep Tl r6.1),(7,Pt b9),(13,.eq U),(14,I D.2)]) (λU D=>[.obj b4 28 (.rep ap r3.1),.obj b9 28 (.agg (.pair (I r7.1) (.pair (I r7.2.1) (.pair (I r7.2.2.1) (.pair (I r7.2.2.2.1) (.pair (.eq z8.1) (.eq z8.2.1))))))),.sl z8.1 33 (.slice Tl) u,.sl z8.2.1 35 ah y,.sl U 3 Ti D.1]) (bT k r3 r5 r6) k (.slice none 0 0) (([]:(List Int)),0) (λ_=>rfl) h (SE.fin [1,2,3,4,0] ⟨rfl,rfl,rfl,rfl,rfl,rfl,trivial⟩ rfl) (λn U D h=>?_);unfold bT at h;refine am (sr (mq ?_));refine fl ge ?_;refine lo cL ?_;refine jb (bG rfl) ?_;refine nt (ci h (λh=>?_) (λh=>?_))
    .refine sk (aJ (Z:=Value) (α:=(List Int)) (λgw VG=>[(4,Pt b4),(5,.rep Tl r5.1),(6,.rep Tl r6.1),(7,Pt b9),(13,.eq gw),(14,I D.2)]) (λgw VG=>[.obj b4 28 (.rep ap r3.1),.obj b9 28 (.agg (.pair (I r7.1) (.pair (I r7.2.1) (.pair (I r7.2.2.1) (.pair (I r7.2.2.2.1) (.pair (.eq z8.1) (.eq z8.2.1))))))),.sl z8.1 33 (.slice Tl) u,.sl z8.2.1 35 ah y,.sl gw 3 Ti VG]) h (λK h=>?_) (λgw VG h=>?_))
     .refine ak (sr ?_);iterate 3 refine mq ?_
      obtain⟨V8,WN,h⟩:=aa h;refine jb (aC [.tmp 119,.tmp 120] rfl rfl Vf rfl (xb k r6.1 D.2 V8 WN)) ?_;obtain⟨W2,WM,h⟩:=aa h;refine jb (aC [.tmp 118,.tmp 121] rfl rfl Vf rfl (xb k r5.1 V8 W2 WM)) ?_;refine jb (kC rfl) ?_;refine nt (ci h (λh=>?_) (λh=>?_))
      .refine ab ?_;iterate 2 refine mq ?_
       refine ja (bf (t:=Ti) [(.tmp 125,_)] [D.2] rfl rfl dX (.cons rfl .int .nil) rfl rfl) ?_;obtain⟨Xr,WA,h⟩:=aa h;refine fr 4 ?_;refine dZ rfl rfl rfl (cu rfl rfl dX (au WA)) ⟨rfl,rfl,trivial⟩ λWX=>?_;refine aq (aD (bn ?_));exact jz (WX,D.1++[D.2]) h [1,2,3,4,0]
      .refine bj (bn ?_);exact jz (U,D.1) h [0,1,2,3,4]
     .refine ab (mq ?_);obtain⟨WQ,Wi,h⟩:=aa h;refine jb (bA rfl Wi) ?_;refine aq (nl ?_);exact jz (gw,(VG,WQ)) h [0,1,2,3,4]
    .refine xa ?_;exact jz (U,D.1) h [0,1,2,3,4]
   .refine sr (lo gC ?_);refine mq ?_;obtain⟨O,WL,h⟩:=aa h;refine jb (aZ [.tmp 129,.tmp 130] rfl rfl P3 rfl (mz k r3.1 r5.1 O WL)) ?_;refine mq ?_;refine xr ?_;refine xr ?_;refine aq ?_;refine aq (nt (sr ?_));refine fr 1 ?_;refine fr 2 ?_;refine dM (jA (off:=4) [] trivial rfl rfl) ?_;refine fr 2 ?_;refine dM (jA (off:=5) [] trivial rfl rfl) ?_;refine lo gC ?_;refine mq ?_;refine fr 2 ?_;refine dM (jk [13,136] ⟨rfl,rfl,trivial⟩) ?_;obtain⟨M,WJ,h⟩:=aa h;refine jb (cf (N:=[(.tmp 135,.agg (.pair (I r7.1) (.pair (I r7.2.1) (.pair (I r7.2.2.1) (.pair (I r7.2.2.2.1) (.pair (.rep (.slice (.slice Tl)) u) (Rs ah y))))))),(.tmp 136,.rep Tl mc)]) (aZ [.tmp 135,.tmp 136] rfl rfl P3 rfl (mz k (r7.1,r7.2.1,r7.2.2.1,r7.2.2.2.1,u,y) mc M WJ)) λ_ _ _ hn=>⟨(aK (t:=ap) (x:=(r7.1,r7.2.1,r7.2.2.1,r7.2.2.2.1,u,y)) (.agg (.pair .int (.pair .int (.pair .int (.pair .int (.pair .rep .rep)))))) trivial rfl hn.1),hn.2.1,trivial⟩) ?_;refine mq ?_;refine xr ?_;refine xr ?_;refine aq ?_;refine aq (nt (sr ?_));refine fr 1 ?_;refine lo gC ?_;obtain⟨W1,WI,h⟩:=aa h;refine ja (aZ [.tmp 141] rfl rfl P2 rfl (mA k r3.1 W1 WI)) ?_;refine mq ?_;refine xr ?_;refine xr ?_;refine aq ?_;refine aq (nt (sr ?_));refine fr 1 ?_;refine lo gC ?_;obtain⟨W0,WH,h⟩:=aa h;refine ja (cf (N:=[(.tmp 146,.agg (.pair (I r7.1) (.pair (I r7.2.1) (.pair (I r7.2.2.1) (.pair (I r7.2.2.2.1) (.pair (.rep (.slice (.slice Tl)) u) (Rs ah y)))))))]) (aZ [.tmp 146] rfl rfl P2 rfl (mA k (r7.1,r7.2.1,r7.2.2.1,r7.2.2.2.1,u,y) W0 WH)) λ_ _ _ hn=>⟨(aK (t:=ap) (x:=(r7.1,r7.2.1,r7.2.2.1,r7.2.2.2.1,u,y)) (.agg (.pair .int (.pair .int (.pair .int (.pair .int (.pair .rep .rep)))))) trivial rfl hn.1),trivial⟩) ?_;refine mq ?_;refine xr ?_;refine xr ?_;refine aq ?_;refine aq (nt (am ?_));refine aJ (Z:=Unit) (α:=Bool) (λVT VN=>[(4,Pt b4),(6,.rep Tl r6.1),(15,.rep (.slice Tl) O.1),(17,.rep (.slice Tl) M.1),(182,.eq (.bool VN))]) (λVT VN=>[.obj b4 28 (.rep ap r3.1)]) h (λK h=>?_) (λVT VN h=>?_)
    .refine ab (mq ?_);refine jb (eX rfl) ?_;refine mq ?_;refine cU (s:=152) rfl (λhb=>?_) (λhb=>?_)
     .replace h:=fo (QD hb) h;iterate 2 refine gn ?_
      refine pt ?_;refine mq ?_;iterate 2 refine gn ?_
      refine pt ?_;refine mq ?_;iterate 2 refine gn ?_
      refine pt ?_;refine mq ?_;iterate 5 refine gn ?_
      refine pt ?_;refine mq ?_;iterate 4 refine gn ?_
      refine pt ?_;refine mq ?_;iterate 4 refine gn ?_
      refine pt (nl ?_);exact jz ((),true) h [1]
     .replace h:=di (FA hb) h;refine gm ?_;refine gb (eX rfl) ?_;refine pf ?_;refine mq ?_;refine cU (s:=156) rfl (λhb=>?_) (λhb=>?_)
      .replace h:=fo (QD hb) h;iterate 2 refine gn ?_
       refine pt ?_;refine mq ?_;iterate 2 refine gn ?_
       refine pt ?_;refine mq ?_;iterate 5 refine gn ?_
       refine pt ?_;refine mq ?_;iterate 4 refine gn ?_
       refine pt ?_;refine mq ?_;iterate 4 refine gn ?_
       refine pt (nl ?_);exact jz ((),true) h [1]
      .replace h:=di (FA hb) h;refine gm ?_;refine gb (eX rfl) ?_;refine pf ?_;refine mq ?_;refine cU (s:=160) rfl (λhb=>?_) (λhb=>?_)
       .replace h:=fo (QD hb) h;iterate 2 refine gn ?_
        refine pt ?_;refine mq ?_;iterate 5 refine gn ?_
        refine pt ?_;refine mq ?_;iterate 4 refine gn ?_
        refine pt ?_;refine mq ?_;iterate 4 refine gn ?_
        refine pt (nl ?_);exact jz ((),true) h [1]
       .replace h:=di (FA hb) h;refine gm ?_;refine gb (eX rfl) ?_;refine pf ?_;refine mq ?_;refine cU (s:=164) rfl (λhb=>?_) (λhb=>?_)
        .replace h:=fo (QD hb) h;iterate 5 refine gn ?_
         refine pt ?_;refine mq ?_;iterate 4 refine gn ?_
         refine pt ?_;refine mq ?_;iterate 4 refine gn ?_
         refine pt (nl ?_);exact jz ((),true) h [1]
        .replace h:=di (FA hb) h;refine gm ?_;refine ga (nP rfl rfl qP) ?_;refine gm ?_;refine ga (nP rfl rfl qP) ?_;refine gb (eX rfl) ?_;refine pf ?_;refine mq ?_;refine cU (s:=171) rfl (λhb=>?_) (λhb=>?_)
         .replace h:=fo (QD hb) h;iterate 4 refine gn ?_
          refine pt ?_;refine mq ?_;iterate 4 refine gn ?_
          refine pt (nl ?_);exact jz ((),true) h [1]
         .replace h:=di (FA hb) h;refine fr 1 ?_;refine nL rfl rfl rfl rfl rfl rfl (ax rfl gC (tP) rfl) ⟨rfl,trivial⟩ ?_;refine gm ?_;obtain⟨WZ,WG,h⟩:=aa h;refine gb (aC [.tmp 172,.tmp 173] rfl rfl SA rfl (rJ k r3.1 O.1 WZ WG)) ?_;refine ga (iY rfl) ?_;refine pf ?_;refine mq ?_;refine cU (s:=177) rfl (λhb=>?_) (λhb=>?_)
          .replace h:=fo (zR hb) h;iterate 4 refine gn ?_
           refine pt (nl ?_);exact jz ((),true) h [0]
          .replace h:=di (tL hb) h;refine nL rfl rfl rfl rfl rfl rfl (ax rfl gC (tP) rfl) ⟨rfl,trivial⟩ ?_;refine gm ?_;obtain⟨V7,WE,h⟩:=aa h;refine gb (aC [.tmp 178,.tmp 179] rfl rfl SA rfl (rJ k r3.1 M.1 V7 WE)) ?_;refine ga (iY rfl) ?_;refine pf (nl ?_);exact jz ((), !V7) h [0]
    .refine cv h (λh=>?_) (λh=>?_)
     .refine sr (cq (nt (rx ?_)));cases h;exact ra
     .refine sk (dU (Z:=Unit) (α:=Unit) (λVS V5=>[]) (λVS V5=>[]) (λe=>e=r) h (λe h=>Option.some.inj h) (λK hR h=>?_) (λVS V5 h=>?_))
      .refine sr (cq (nt (ak ?_)));refine aH (Z:=Unit) (α:=Int) (λVQ X=>[(4,Pt b4),(6,.rep Tl r6.1),(15,.rep (.slice Tl) O.1),(17,.rep (.slice Tl) M.1),(23,I X)]) (λVQ X=>[.obj b4 28 (.rep ap r3.1)]) (cR k r3 r6 O M) k () 0 (λ_=>rfl) h (SE.fin [0] ⟨rfl,rfl,rfl,rfl,rfl,trivial⟩ rfl) (λn VQ X h=>?_);unfold cR at h;refine am (sr ?_);iterate 2 refine mq ?_
       refine ol qP ?_;refine jb (bG rfl) ?_;refine nt (ci h (λh=>?_) (λh=>?_))
       .refine sk (dU (Z:=Unit) (α:=Unit) (λVP V4=>[(4,Pt b4),(6,.rep Tl r6.1),(15,.rep (.slice Tl) O.1),(17,.rep (.slice Tl) M.1),(23,I X)]) (λVP V4=>[.obj b4 28 (.rep ap r3.1)]) (λe=>e=r) h (λe h=>hR e h) (λK hR h=>?_) (λVP V4 h=>?_))
        .refine ak (sr (cq (nt (ak ?_))));refine aH (Z:=Unit) (α:=Int) (λVO VM=>[(4,Pt b4),(6,.rep Tl r6.1),(15,.rep (.slice Tl) O.1),(17,.rep (.slice Tl) M.1),(23,I X),(24,I VM)]) (λVO VM=>[.obj b4 28 (.rep ap r3.1)]) (cQ k r3 r6 O M X) k () 0 (λ_=>rfl) h (SE.fin [0] ⟨rfl,rfl,rfl,rfl,rfl,rfl,trivial⟩ rfl) (λn VO VM h=>?_);unfold cQ at h;refine am (sr (mq ?_));refine fl ge ?_;refine lo cL ?_;refine jb (bG rfl) ?_;refine nt (ci h (λh=>?_) (λh=>?_))
         .refine sk (am (ak (am (cN ?_))));refine dm ?_;refine dm ?_;obtain⟨Xh,Wh,h⟩:=aa h;refine db (aU (t:=Tl) rfl qP ii Wh) ?_;refine da (ay (t:=Tl) rfl ii rfl) ?_;refine dm ?_;obtain⟨Xg,Wg,h⟩:=aa h;refine db (aU (t:=Ti) rfl ix cL Wg) ?_;refine da (ay (t:=Ti) rfl cL rfl) ?_;refine dm ?_;refine dm ?_;obtain⟨Xf,We,h⟩:=aa h;refine db (aU (t:=Tl) rfl qP ii We) ?_;refine da (ay (t:=Tl) rfl ii rfl) ?_;refine dm ?_;refine dm ?_;obtain⟨Xe,Wc,h⟩:=aa h;refine db (aU (t:=Ti) rfl ix cL Wc) ?_;refine da (ay (t:=Ti) rfl cL rfl) ?_;obtain⟨Xd,Wb,h⟩:=aa h;refine db (aU (t:=Ti) rfl ix cL Wb) ?_;refine da (ay (t:=Ti) rfl cL rfl) ?_;refine df d4 ?_;refine jb (eX rfl) ?_;refine nt (cn h (λh=>?_) (λh=>?_))
          .refine sr (cq (nt (aF (br (bP (br (bP (bM ?_))))))));obtain rfl:=hR _ h;exact ra
          .refine bj (aR (tn (ab (mq ?_))));obtain⟨WP,Wa,h⟩:=aa h;refine jb (bA rfl Wa) ?_;refine aq (nl ?_);exact jz ((),WP) h [0]
         .refine eO (bi (bi (cT (bn ?_))));exact jz ((),()) h [0]
        .refine ab (mq ?_);obtain⟨WO,V9,h⟩:=aa h;refine jb (bA rfl V9) ?_;refine aq (nl ?_);exact jz ((),WO) h [0]
       .refine xa ?_;exact jz ((),()) h []
      .refine sr ?_;obtain⟨WY,WC,h⟩:=aa h;refine bh rfl (aZ [] rfl rfl UP rfl (An k WY WC)) trivial ?_;refine aq (nt (aF ?_));cases h;exact ra
