import Derived.Test.YtddkbkkogpolaaaGreatVDB11
open Nat
open List hiding mem_of_getElem?
open Array hiding mem_of_getElem? mk
set_option linter.unusedSimpArgs false
set_option linter.unusedVariables false
set_option maxRecDepth 4000
set_option maxHeartbeats 1000000
namespace Go.Proofs.YtddkbkkogpolaaaGreat
open K Go Go.Proofs
def fy(k:Nat)(r4:(List Int)×bM):Nat->((List Int)×Int×Int×Int×(List (List Int)))->Option ((List Int)×Int×Int×(List (List Int)))
 |0,_=>none
 |n+1,y7=>
  if y7.2.2.2.1 < (r4.1.length:Int) then((((fo k (y7.1,y7.2.1,y7.2.2.1) 5).bind λc=>
  if c.1=true then(some (c.2.1,c.2.2.1,c.2.2.2,y7.2.2.2.2)) else((ck ((y7.2.2.2.2.length:Int) - 1)).bind λr=>
  (cy k (c.2.1,c.2.2.1,c.2.2.2) r).bind λe=>
  (aJ y7.2.2.2.2 e.1).bind λj=>
  (aJ r4.1 y7.2.2.2.1).bind λh=>
  (cN (bP (length j+length [h]))).bind λ_=>
  some (e.2.1,e.2.2.1,e.2.2.2,List.set y7.2.2.2.2 (Int.toNat e.1) (j++[h])))):Option ((List Int)×Int×Int×(List (List Int)))).bind λx9=>
  (ck (y7.2.2.2.1+1)).bind λl=>
  fy k r4 n (x9.1,x9.2.1,x9.2.2.1,l,x9.2.2.2)) else(some (y7.1,y7.2.1,y7.2.2.1,y7.2.2.2.2))
def jQ(k:Nat)(a0:bM)(a1:Int):Option ((List (List Int))×bM):=
 (fK k (a0.1,a0.2.1,a0.2.2) 1 3).bind λr1=>
 (cN (0≤r1.1/\bP (Int.toNat r1.1))).bind λ_=>
 (gR k (r1.2.1,r1.2.2.1,r1.2.2.2) a1).bind λr4=>
 ((fy k r4 k (r4.2.1,r4.2.2.1,r4.2.2.2,0,List.replicate (Int.toNat r1.1) ([]:(List Int)))):Option ((List Int)×Int×Int×(List (List Int)))).bind λx5=>
 some (x5.2.2.2,(x5.1,x5.2.1,x5.2.2.1))
theorem uA(k:Nat)(a0:bM)(c:Nat)(a1:Int)(r:(List (List Int))×bM)(h:jQ k a0 a1=some r):
 dG Tryz.prog 59 [Pt c,I a1] [.obj c 71 (.agg (.pair (.rep Tl a0.1) (.pair (I a0.2.1) (.eq (.int .u64 a0.2.2)))))] (λ_:Unit=>(bL [.rep (.slice Tl) r.1],[.obj c 71 (.agg (.pair (.rep Tl r.2.1) (.pair (I r.2.2.1) (.eq (.int .u64 r.2.2.2)))))])):=by
 unfold jQ at h
 replace h:=bo h
 refine dG.of 42 Tryz.func59 rfl Tryz.ntmps59 rfl λS w0=>?_
 refine sr ?_
 refine cq ?_
 refine nt ?_
 refine sr ?_
 refine mq ?_
 obtain⟨r1,UV,h⟩:=aa h
 have UX:=i7 k (a0.1,a0.2.1,a0.2.2) c 1 3 r1 UV
 refine kc (aA [.tmp 9,.const (.int .i64 (1)),.const (.int .i64 (3))] rfl rfl Ln rfl UX) ?_
 obtain⟨u2,U,h⟩:=aa h
 refine aX rfl rfl rfl (G8 (t:=.val) (d:=.slice none 0 0) rfl nE PX (am U).1 (am U).2) ⟨rfl,rfl,trivial⟩ λv3=>?_
 refine eB (IS (F:=[.obj c 71 (.agg (.pair (.rep Tl r1.2.1) (.pair (I r1.2.2.1) (.eq (.int .u64 r1.2.2.2)))))])) ?_
 refine aq ?_
 refine nt ?_
 refine sr ?_
 iterate 2 refine mq ?_
 obtain⟨r4,UU,h⟩:=aa h
 have UW:=rf k (r1.2.1,r1.2.2.1,r1.2.2.2) c a1 r4 UU
 refine kb (aA [.tmp 12,.tmp 13] rfl rfl Tj rfl UW) ?_
 refine aq ?_
 refine nt ?_
 refine aD (Z:=(Value×(Nat->Value))) (α:=(List Int)×Int×Int×(List (List Int))) (λz6 x5=>[(5,.eq z6.1)]) (λz6 x5=>[.obj c 71 (.agg (.pair (.rep Tl x5.1) (.pair (I x5.2.1) (.eq (.int .u64 x5.2.2.1)))))]++xw 22 z6 x5.2.2.2) h (λK h=>?_) (λz6 x5 h=>?_)
 .
  refine sr (cq (nt (aj ?_)));refine aF (Z:=(Value×(Nat->Value))) (α:=(List Int)×Int×Int×Int×(List (List Int))) (λz8 y7=>[(0,Pt c),(5,.eq z8.1),(6,.rep Tl r4.1),(7,I y7.2.2.2.1)]) (λz8 y7=>[.obj c 71 (.agg (.pair (.rep Tl y7.1) (.pair (I y7.2.1) (.eq (.int .u64 y7.2.2.1)))))]++xw 22 z8 y7.2.2.2.2) (fy k r4) k (v3,λ_=>.slice none 0 0) (r4.2.1,r4.2.2.1,r4.2.2.2,0,List.replicate (Int.toNat r1.1) ([]:(List Int))) (λ_=>rfl) h (kP [.obj c 71 (.agg (.pair (.rep Tl r4.2.1) (.pair (I r4.2.2.1) (.eq (.int .u64 r4.2.2.2)))))] (xw 22 (v3,λ_=>.slice none 0 0) (List.replicate (Int.toNat r1.1) ([]:(List Int)))) [0] ⟨rfl,rfl,rfl,rfl,trivial⟩ rfl) (λn z8 y7 h=>?_);unfold fy at h;refine ak (sr ?_);iterate 2 refine mq ?_
  refine ol iK ?_;refine jb (bK rfl) ?_;refine nt (ci h (λh=>?_) (λh=>?_))
  .refine sk (aD (Z:=(Value×(Nat->Value))) (α:=(List Int)×Int×Int×(List (List Int))) (λy x9=>[(0,Pt c),(5,.eq y.1),(6,.rep Tl r4.1),(7,I y7.2.2.2.1)]) (λy x9=>[.obj c 71 (.agg (.pair (.rep Tl x9.1) (.pair (I x9.2.1) (.eq (.int .u64 x9.2.2.1)))))]++xw 22 y x9.2.2.2) h (λK h=>?_) (λy x9 h=>?_))
   .refine aj (ak (sr (mq ?_)));obtain⟨j,gw,h⟩:=aa h;refine kb (aA [.tmp 21,.const (.int .i64 (5))] rfl rfl OW rfl (jp k (y7.1,y7.2.1,y7.2.2.1) c 5 j gw)) ?_;refine nt (cv h (λh=>?_) (λh=>?_))
    .refine eu (bv (cH (an ?_)));exact vc (z8,(j.2.1,j.2.2.1,j.2.2.2,y7.2.2.2.2)) h (kP [.obj c 71 (.agg (.pair (.rep Tl j.2.1) (.pair (I j.2.2.1) (.eq (.int .u64 j.2.2.2)))))] (xw 22 z8 y7.2.2.2.2) [0] ⟨rfl,rfl,rfl,rfl,trivial⟩ rfl)
    .refine sk (sr ?_);iterate 2 refine mq ?_
     refine I0 (pre:=[.obj c 71 (.agg (.pair (.rep Tl j.2.1) (.pair (I j.2.2.1) (.eq (.int .u64 j.2.2.2)))))]) rfl rfl rfl rfl rfl qx ⟨rfl,trivial⟩ ?_;obtain⟨mw,Q,h⟩:=aa h;refine jb (eN rfl Q) ?_;obtain⟨e,Y,h⟩:=aa h;refine kb (aA [.tmp 23,.tmp 26] rfl rfl vI rfl (cK k (j.2.1,j.2.2.1,j.2.2.2) c mw e Y)) ?_;refine aq (nt ?_);obtain⟨x,s,h⟩:=aa h;refine iL (Fb (pre:=[.obj c 71 (.agg (.pair (.rep Tl e.2.1) (.pair (I e.2.2.1) (.eq (.int .u64 e.2.2.2)))))]) (C9 s).2) ?_;obtain⟨u,O,h⟩:=aa h;obtain⟨u16,X,h⟩:=aa h;refine I3 (Δ:=[.sl (z8.2 (Int.toNat e.1)) 3 Ti x,.sl z8.1 22 .val (nN z8.2 0 y7.2.2.2.2),.obj c 71 (.agg (.pair (.rep Tl e.2.1) (.pair (I e.2.2.1) (.eq (.int .u64 e.2.2.2)))))]) (F:=(nF z8.2 0 y7.2.2.2.2).eraseIdx (Int.toNat e.1)) (Z:=Value) (λi=>[(0,Pt c),(5,.eq z8.1),(6,.rep Tl r4.1),(7,I y7.2.2.2.1)]) (λi=>[.sl z8.1 22 .val (List.set (nN z8.2 0 y7.2.2.2.2) (Int.toNat e.1) i),.sl i 3 Ti (x++[u]),.obj c 71 (.agg (.pair (.rep Tl e.2.1) (.pair (I e.2.2.1) (.eq (.int .u64 e.2.2.2)))))]) (λS w=>?_) (λl=>?_)
     .refine rH ?_;refine bT rfl rfl rfl (bJ rfl) ⟨rfl,trivial⟩ ?_;refine bT rfl rfl rfl (bJ rfl) ⟨rfl,trivial⟩ ?_;refine bT rfl rfl rfl (bJ rfl) ⟨rfl,trivial⟩ ?_;refine bT rfl rfl rfl (bJ rfl) ⟨rfl,trivial⟩ ?_;refine hH 1 rfl rfl rfl rfl (bq (t:=.val) rfl qx iQ (tw s)) ⟨rfl,rfl,trivial⟩ ?_;refine hH 1 rfl rfl rfl rfl (dI (i:=Int.toNat e.1) (off:=0) rfl iQ (λ_=>rfl) rfl (cL (tw s)).2.2 rfl) ⟨rfl,trivial⟩ ?_;refine bT rfl rfl rfl (bJ rfl) ⟨rfl,trivial⟩ ?_;refine bT rfl rfl rfl (bJ rfl) ⟨rfl,trivial⟩ ?_;refine bT rfl rfl rfl (bj (t:=Ti) rfl iK cM O) ⟨rfl,rfl,trivial⟩ ?_;refine bT rfl rfl rfl (au (t:=Ti) rfl cM rfl) ⟨rfl,trivial⟩ ?_;refine bT rfl rfl rfl (bb (t:=Ti) [(.tmp 37,_)] [u] rfl rfl dT (.cons rfl .int .nil) rfl rfl) ⟨rfl,trivial⟩ ?_;refine Jb 0 rfl (λv=>[.sl v 3 Ti (x++[u])]) (λ_=>rfl) rfl rfl rfl (cI rfl rfl dT (am X)) ⟨rfl,rfl,trivial⟩ ?_;refine ve 12 [true,true,true,true,true,true,true,true,true,true,true,true] [40] [] [] rfl (by kernel_rfl) (by kernel_rfl) (by kernel_rfl) eO (λvs hv hB=>?_);obtain⟨w0,Vg,rfl,UT⟩:=ax hv;obtain⟨w1,Vf,rfl,US⟩:=ax UT;obtain⟨w2,Ve,rfl,UR⟩:=ax US;obtain⟨w3,Vb,rfl,UQ⟩:=ax UR;obtain⟨w4,Va,rfl,UP⟩:=ax UQ;obtain⟨w5,U8,rfl,UO⟩:=ax UP;obtain⟨w6,U7,rfl,UN⟩:=ax UO;obtain⟨w7,U6,rfl,zz⟩:=ax UN;obtain⟨w8,U2,rfl,qt⟩:=ax zz;obtain⟨w9,U0,rfl,J⟩:=ax qt;obtain⟨U1,UZ,rfl,E⟩:=ax J;obtain⟨l,UY,rfl,D⟩:=ax E;obtain rfl:=qY D;refine⟨[0,1,2],[.sl z8.1 22 .val (nN z8.2 0 y7.2.2.2.2),.obj c 71 (.agg (.pair (.rep Tl e.2.1) (.pair (I e.2.2.1) (.eq (.int .u64 e.2.2.2))))),.sl l 3 Ti (x++[u])],by kernel_rfl,by decide,?_⟩;refine va rfl rfl rfl rfl (bq (t:=.val) rfl qx iQ (tw s)) ⟨rfl,rfl,trivial⟩ (by kernel_rfl) ?_;refine rF 2 rfl ?_;refine Pz λo18=>?_;refine rF 1 rfl ?_;refine sW rfl rfl (fG (i:=Int.toNat e.1) rfl iQ rfl (l7 (tw s)) rfl (.val o18) o18) ⟨rfl,rfl,trivial⟩ (by kernel_rfl) ?_;refine yu ?_;refine bY (SE.fin (Γ':=[(0,Pt c),(5,.eq z8.1),(6,.rep Tl r4.1),(7,I y7.2.2.2.1)]) (Δ':=[.sl z8.1 22 .val (List.set (nN z8.2 0 y7.2.2.2.2) (Int.toNat e.1) l),.sl l 3 Ti (x++[u]),.obj c 71 (.agg (.pair (.rep Tl e.2.1) (.pair (I e.2.2.1) (.eq (.int .u64 e.2.2.2)))))]) [0,1,2] ⟨rfl,rfl,rfl,rfl,trivial⟩ rfl) ?_;exact λa w st=>⟨rfl,(l),(SE.fin (Γ':=[(0,Pt c),(5,.eq z8.1),(6,.rep Tl r4.1),(7,I y7.2.2.2.1)]) (Δ':=[.sl z8.1 22 .val (List.set (nN z8.2 0 y7.2.2.2.2) (Int.toNat e.1) l),.sl l 3 Ti (x++[u]),.obj c 71 (.agg (.pair (.rep Tl e.2.1) (.pair (I e.2.2.1) (.eq (.int .u64 e.2.2.2)))))]) [0,1,2] ⟨rfl,rfl,rfl,rfl,trivial⟩ rfl) a w st⟩
     .show JN _ _ [(0,Pt c),(5,.eq z8.1),(6,.rep Tl r4.1),(7,I y7.2.2.2.1)] ([.sl z8.1 22 .val (List.set (nN z8.2 0 y7.2.2.2.2) (Int.toNat e.1) l),.sl l 3 Ti (x++[u]),.obj c 71 (.agg (.pair (.rep Tl e.2.1) (.pair (I e.2.2.1) (.eq (.int .u64 e.2.2.2)))))]++(nF z8.2 0 y7.2.2.2.2).eraseIdx (Int.toNat e.1));refine bz 1 rfl ?_;refine bY (BX (pre:=[.obj c 71 (.agg (.pair (.rep Tl e.2.1) (.pair (I e.2.2.1) (.eq (.int .u64 e.2.2.2)))))]) (z:=z8) (i:=Int.toNat e.1) (C9 s).2) ?_;refine bn ?_;exact vc ((z8.1,A1 z8.2 (Int.toNat e.1) l),(e.2.1,e.2.2.1,e.2.2.2,List.set y7.2.2.2.2 (Int.toNat e.1) (x++[u]))) h (kP [.obj c 71 (.agg (.pair (.rep Tl e.2.1) (.pair (I e.2.2.1) (.eq (.int .u64 e.2.2.2)))))] (xw 22 (z8.1,A1 z8.2 (Int.toNat e.1) l) (List.set y7.2.2.2.2 (Int.toNat e.1) (x++[u]))) [0] ⟨rfl,rfl,rfl,rfl,trivial⟩ rfl)
   .refine ab (mq ?_);obtain⟨mc,M,h⟩:=aa h;refine jb (bh rfl M) ?_;refine aq (nl ?_);exact vc (y,(x9.1,x9.2.1,x9.2.2.1,mc,x9.2.2.2)) h (kP [.obj c 71 (.agg (.pair (.rep Tl x9.1) (.pair (I x9.2.1) (.eq (.int .u64 x9.2.2.1)))))] (xw 22 y x9.2.2.2) [0] ⟨rfl,rfl,rfl,rfl,trivial⟩ rfl)
  .refine xa ?_;exact vc (z8,(y7.1,y7.2.1,y7.2.2.1,y7.2.2.2.2)) h (kP [.obj c 71 (.agg (.pair (.rep Tl y7.1) (.pair (I y7.2.1) (.eq (.int .u64 y7.2.2.1)))))] (xw 22 z8 y7.2.2.2.2) [0] ⟨rfl,trivial⟩ rfl)
 .
  refine sr (mq ?_);refine aq (nt (ay ?_));refine bY (IT (pre:=[.obj c 71 (.agg (.pair (.rep Tl x5.1) (.pair (I x5.2.1) (.eq (.int .u64 x5.2.2.1)))))])) ?_;refine bY (jt [4,5,41] ⟨rfl,rfl,rfl,trivial⟩) ?_;cases h;exact aR () [_] 1 ⟨rfl,trivial⟩ rfl
def fA(k:Nat)(r2:Int×bM):Nat->((List Int)×Int×Int×(List (List (List Int)))×Int)->Option ((List (List (List Int)))×(List Int)×Int×Int)
 |0,_=>none
 |n+1,c=>
  if 0 < c.2.2.2.2 then(((((if 0 < (c.2.2.2.1.length:Int) then((fo k (c.1,c.2.1,c.2.2.1) 3).bind λl=>
  some (l.2.1,l.2.2.1,l.2.2.2,l.1)) else(some (c.1,c.2.1,c.2.2.1,false))):Option ((List Int)×Int×Int×Bool)).bind λe=>
  if e.2.2.2=true then((ck ((c.2.2.2.1.length:Int) - 1)).bind λx=>
  (aJ c.2.2.2.1 x).bind λu=>
  (ig k u).bind λr=>
  (cN (bP (length c.2.2.2.1+length [r]))).bind λ_=>
  some (e.1,e.2.1,e.2.2.1,c.2.2.2.1++[r])) else((jQ k (e.1,e.2.1,e.2.2.1) r2.1).bind λh=>
  (cN (bP (length c.2.2.2.1+length [h.1]))).bind λ_=>
  some (h.2.1,h.2.2.1,h.2.2.2,c.2.2.2.1++[h.1]))):Option ((List Int)×Int×Int×(List (List (List Int))))).bind λj=>
  (ck (c.2.2.2.2 - 1)).bind λs=>
  fA k r2 n (j.1,j.2.1,j.2.2.1,j.2.2.2,s)) else(some (c.2.2.2.1,c.1,c.2.1,c.2.2.1))
def jR(k:Nat)(a0:bM)(a1:Int)(a2:Int):Option (ae×bM):=
 (fK k (a0.1,a0.2.1,a0.2.2) 1 a1).bind λr2=>
 (cy k (r2.2.1,r2.2.2.1,r2.2.2.2) 3).bind λr3=>
 (gQ k (r3.2.1,r3.2.2.1,r3.2.2.2) [0,1,1,2,r3.1]).bind λr4=>
 (cy k (r4.2.1,r4.2.2.1,r4.2.2.2) 3).bind λr5=>
 (gQ k (r5.2.1,r5.2.2.1,r5.2.2.2) [0,1,2,r5.1]).bind λr6=>
 (fK k (r6.2.1,r6.2.2.1,r6.2.2.2) 1 3).bind λr7=>
 (gQ k (r7.2.1,r7.2.2.1,r7.2.2.2) [1,2,r7.1]).bind λr8=>
 (((fK k (r8.2.1,r8.2.2.1,r8.2.2.2) 1 a2).bind λe=>
 fA k r2 k (e.2.1,e.2.2.1,e.2.2.2,([]:(List (List (List Int)))),e.1)):Option ((List (List (List Int)))×(List Int)×Int×Int)).bind λc=>
 some ((r2.1,r4.1,r6.1,r8.1,c.1,[]),(c.2.1,c.2.2.1,c.2.2.2))
theorem uC(k:Nat)(a0:bM)(c:Nat)(a1:Int)(a2:Int)(r:ae×bM)(h:jR k a0 a1 a2=some r):
 dG Tryz.prog 23 [Pt c,I a1,I a2] [.obj c 71 (.agg (.pair (.rep Tl a0.1) (.pair (I a0.2.1) (.eq (.int .u64 a0.2.2)))))] (λ_:Unit=>(bL [.agg (.pair (I r.1.1) (.pair (I r.1.2.1) (.pair (I r.1.2.2.1) (.pair (I r.1.2.2.2.1) (.pair (.rep (.slice (.slice Tl)) r.1.2.2.2.2.1) (.eq (.slice none 0 0)))))))],[.obj c 71 (.agg (.pair (.rep Tl r.2.1) (.pair (I r.2.2.1) (.eq (.int .u64 r.2.2.2)))))])):=by
 unfold jR at h
 replace h:=bo h
 refine dG.of 67 Tryz.func23 rfl Tryz.ntmps23 rfl λS w0=>?_
 refine sr ?_
 refine aX rfl rfl rfl (bg rfl yD E6) trivial λb1=>?_
 refine nt ?_
 refine sr ?_
 iterate 2 refine mq ?_
 obtain⟨r2,UY,h⟩:=aa h
 have U8:=i7 k (a0.1,a0.2.1,a0.2.2) c 1 a1 r2 UY
 refine fr 1 ?_
 refine kc (aA [.tmp 10,.const (.int .i64 (1)),.tmp 11] rfl rfl Ln rfl U8) ?_
 iterate 2 refine mq ?_
 obtain⟨r3,UX,h⟩:=aa h
 have U7:=cK k (r2.2.1,r2.2.2.1,r2.2.2.2) c 3 r3 UX
 refine kb (aA [.tmp 14,.const (.int .i64 (3))] rfl rfl vI rfl U7) ?_
 refine cf rfl (bb (t:=Ti) [(.const (.int .i64 (0)),_),(.const (.int .i64 (1)),_),(.const (.int .i64 (1)),_),(.const (.int .i64 (2)),_),(.tmp 15,_)] [0,1,1,2,r3.1] rfl rfl dT (.cons rfl .int (.cons rfl .int (.cons rfl .int (.cons rfl .int (.cons rfl .int .nil))))) rfl rfl) ⟨rfl,rfl,rfl,rfl,rfl,trivial⟩ ?_
 obtain⟨r4,UW,h⟩:=aa h
 have U6:=lB k (r3.2.1,r3.2.2.1,r3.2.2.2) c [0,1,1,2,r3.1] r4 UW
 refine kb (aA [.tmp 13,.tmp 16] rfl rfl OU rfl U6) ?_
 iterate 2 refine mq ?_
 obtain⟨r5,UV,h⟩:=aa h
 have U2:=cK k (r4.2.1,r4.2.2.1,r4.2.2.2) c 3 r5 UV
 refine kb (aA [.tmp 19,.const (.int .i64 (3))] rfl rfl vI rfl U2) ?_
 refine cf rfl (bb (t:=Ti) [(.const (.int .i64 (0)),_),(.const (.int .i64 (1)),_),(.const (.int .i64 (2)),_),(.tmp 20,_)] [0,1,2,r5.1] rfl rfl dT (.cons rfl .int (.cons rfl .int (.cons rfl .int (.cons rfl .int .nil)))) rfl rfl) ⟨rfl,rfl,rfl,rfl,trivial⟩ ?_
 obtain⟨r6,UU,h⟩:=aa h
 have U1:=lB k (r5.2.1,r5.2.2.1,r5.2.2.2) c [0,1,2,r5.1] r6 UU
 refine kb (aA [.tmp 18,.tmp 21] rfl rfl OU rfl U1) ?_
 iterate 2 refine mq ?_
 obtain⟨r7,UT,h⟩:=aa h
 have U0:=i7 k (r6.2.1,r6.2.2.1,r6.2.2.2) c 1 3 r7 UT
 refine kc (aA [.tmp 24,.const (.int .i64 (1)),.const (.int .i64 (3))] rfl rfl Ln rfl U0) ?_
 refine jc (bb (t:=Ti) [(.const (.int .i64 (1)),_),(.const (.int .i64 (2)),_),(.tmp 25,_)] [1,2,r7.1] rfl rfl dT (.cons rfl .int (.cons rfl .int (.cons rfl .int .nil))) rfl rfl) ?_
 obtain⟨r8,US,h⟩:=aa h
 have UZ:=lB k (r7.2.1,r7.2.2.1,r7.2.2.2) c [1,2,r7.1] r8 US
 refine kb (aA [.tmp 23,.tmp 26] rfl rfl OU rfl UZ) ?_
 refine cf rfl (dq [(0,.tmp 12,_),(1,.tmp 17,_),(2,.tmp 22,_),(3,.tmp 27,_)] rfl Qh yD Nx (hP ⟨rfl,rfl,rfl,rfl,trivial⟩) rfl) ⟨rfl,rfl,rfl,rfl,trivial⟩ ?_
 refine aX rfl rfl rfl (bg rfl yD E6) trivial λb9=>?_
 refine aM rfl rfl (aL rfl hJ trivial rfl rfl) ⟨rfl,rfl,trivial⟩ ?_
 refine nt ?_
 refine aD (Z:=Value) (α:=(List (List (List Int)))×(List Int)×Int×Int) (λJ y=>[(6,Pt b1),(7,Pt b9)]) (λJ y=>[.obj b1 26 (.agg (.pair (I 0) (.pair (I 0) (.pair (I 0) (.pair (I 0) (.pair (.eq (.slice none 0 0)) (.eq (.slice none 0 0)))))))),.obj b9 26 (.agg (.pair (I r2.1) (.pair (I r4.1) (.pair (I r6.1) (.pair (I r8.1) (.pair (.eq J) (.eq (.slice none 0 0)))))))),.sl J 30 (.slice Tl) y.1,.obj c 71 (.agg (.pair (.rep Tl y.2.1) (.pair (I y.2.2.1) (.eq (.int .u64 y.2.2.2)))))]) h (λK h=>?_) (λJ y h=>?_)
 .
  refine sr ?_;iterate 2 refine mq ?_
  obtain⟨F,zz,h⟩:=aa h;refine fr 1 ?_;refine kc (aA [.tmp 29,.const (.int .i64 (1)),.tmp 30] rfl rfl Ln rfl (i7 k (r8.2.1,r8.2.2.1,r8.2.2.2) c 1 a2 F zz)) ?_;refine aq (nt (aj ?_));refine iL (SE.nil 30 (.slice Tl)) ?_;refine aF (λu e=>[(0,Pt c),(6,Pt b1),(7,Pt b9),(8,I e.2.2.2.2)]) (λu e=>[.obj c 71 (.agg (.pair (.rep Tl e.1) (.pair (I e.2.1) (.eq (.int .u64 e.2.2.1))))),.obj b1 26 (.agg (.pair (I 0) (.pair (I 0) (.pair (I 0) (.pair (I 0) (.pair (.eq (.slice none 0 0)) (.eq (.slice none 0 0)))))))),.obj b9 26 (.agg (.pair (I r2.1) (.pair (I r4.1) (.pair (I r6.1) (.pair (I r8.1) (.pair (.eq u) (.eq (.slice none 0 0)))))))),.sl u 30 (.slice Tl) e.2.2.2.1]) (fA k r2) k (.slice none 0 0) (F.2.1,F.2.2.1,F.2.2.2,([]:(List (List (List Int)))),F.1) (λ_=>rfl) h (SE.fin [1,3,2,0] ⟨rfl,rfl,rfl,rfl,trivial⟩ rfl) (λn u e h=>?_);unfold fA at h;refine ak (sr (mq ?_));refine jb (lT rfl) ?_;refine nt (ci h (λh=>?_) (λh=>?_))
  .refine sk (aD (Z:=Value) (α:=(List Int)×Int×Int×(List (List (List Int)))) (λD l=>[(0,Pt c),(6,Pt b1),(7,Pt b9),(8,I e.2.2.2.2)]) (λD l=>[.obj c 71 (.agg (.pair (.rep Tl l.1) (.pair (I l.2.1) (.eq (.int .u64 l.2.2.1))))),.obj b1 26 (.agg (.pair (I 0) (.pair (I 0) (.pair (I 0) (.pair (I 0) (.pair (.eq (.slice none 0 0)) (.eq (.slice none 0 0)))))))),.obj b9 26 (.agg (.pair (I r2.1) (.pair (I r4.1) (.pair (I r6.1) (.pair (I r8.1) (.pair (.eq D) (.eq (.slice none 0 0)))))))),.sl D 30 (.slice Tl) l.2.2.2]) h (λK h=>?_) (λD l h=>?_))
   .refine aj (ak (sr (fl eh ?_)));refine fr 2 ?_;refine lo kD ?_;refine fr 3 ?_;refine ka (iF rfl rfl vl) ?_;refine aq (nt ?_);refine aD (Z:=Unit) (α:=(List Int)×Int×Int×Bool) (λQ j=>[(0,Pt c),(6,Pt b1),(7,Pt b9),(8,I e.2.2.2.2),(9,I (e.2.2.2.1.length:Int)),(44,.eq (.bool j.2.2.2))]) (λQ j=>[.obj c 71 (.agg (.pair (.rep Tl j.1) (.pair (I j.2.1) (.eq (.int .u64 j.2.2.1))))),.obj b1 26 (.agg (.pair (I 0) (.pair (I 0) (.pair (I 0) (.pair (I 0) (.pair (.eq (.slice none 0 0)) (.eq (.slice none 0 0)))))))),.obj b9 26 (.agg (.pair (I r2.1) (.pair (I r4.1) (.pair (I r6.1) (.pair (I r8.1) (.pair (.eq u) (.eq (.slice none 0 0)))))))),.sl u 30 (.slice Tl) e.2.2.2.1]) h (λK h=>?_) (λQ j h=>?_)
    .refine ab (mq ?_);refine jb (lT rfl) ?_;refine mq ?_;refine ce (s:=41) rfl (λhb=>?_) (λhb=>?_)
     .replace h:=eM (vJ hb) h;refine gm ?_;obtain⟨E,qt,h⟩:=aa h;refine fr 2 ?_;refine jv rfl rfl rfl rfl rfl rfl (aA [.tmp 42,.const (.int .i64 (3))] rfl rfl OW rfl (jp k (e.1,e.2.1,e.2.2.1) c 3 E qt)) ⟨rfl,rfl,trivial⟩ ?_;refine pt (nl ?_);exact jz ((),(E.2.1,E.2.2.1,E.2.2.2,E.1)) h [0,3,2,1]
     .replace h:=cV (vK hb) h;iterate 2 refine gn ?_
      refine pf (nl ?_);exact jz ((),(e.1,e.2.1,e.2.2.1,false)) h [2,3,1,0]
    .refine cv h (λh=>?_) (λh=>?_)
     .refine ak (c9 ?_);refine da (aH rfl eh) ?_;refine ea 2 (av rfl kD pr rfl) ?_;refine da (aH rfl eh) ?_;refine ea 2 (av rfl kD pr rfl) ?_;refine dm ?_;obtain⟨UP,X,h⟩:=aa h;refine db (eN rfl X) ?_;obtain⟨UO,M,h⟩:=aa h;refine eb 3 (bq (t:=(.slice Tl)) rfl vl te M) ?_;refine ea 3 (dI (i:=Int.toNat UP) (off:=0) rfl te (λ_=>rfl) rfl (cL M).2.2 rfl) ?_;obtain⟨O,mw,h⟩:=aa h;refine da (DO (aA [.tmp 52] rfl rfl TJ rfl (sE k UO O mw))) ?_;refine da (bb (t:=(.slice Tl)) [(.tmp 53,_)] [O] rfl rfl xh (.cons rfl .rep .nil) rfl rfl) ?_;refine df eO ?_;obtain⟨Vb,gw,h⟩:=aa h;refine fr 3 ?_;refine er rfl rfl rfl (cI rfl rfl xh (am gw)) ⟨rfl,rfl,trivial⟩ λUR=>?_;refine fl eh ?_;refine sX λo25=>?_;refine fr 3 ?_;refine aM rfl rfl (aL rfl kD o25 rfl rfl) ⟨rfl,rfl,trivial⟩ ?_;refine nt (eu (bv (cH (an ?_))));exact jz (UR,(j.1,j.2.1,j.2.2.1,e.2.2.2.1++[O])) h [2,3,0,1]
     .refine sk (c9 ?_);refine da (aH rfl eh) ?_;refine ea 2 (av rfl kD pr rfl) ?_;refine dm ?_;refine da (aH rfl gp) ?_;refine ea 2 (av rfl cM pr rfl) ?_;obtain⟨x,mc,h⟩:=aa h;refine D7 0 rfl rfl rfl rfl (aA [.tmp 59,.tmp 61] rfl rfl TF rfl (uA k (j.1,j.2.1,j.2.2.1) c r2.1 x mc)) ⟨rfl,rfl,trivial⟩ ?_;refine da (bb (t:=(.slice Tl)) [(.tmp 62,_)] [x.1] rfl rfl xh (.cons rfl .rep .nil) rfl rfl) ?_;refine D8 (Δ':=[.obj b1 26 (.agg (.pair (I 0) (.pair (I 0) (.pair (I 0) (.pair (I 0) (.pair (.eq (.slice none 0 0)) (.eq (.slice none 0 0)))))))),.obj b9 26 (.agg (.pair (I r2.1) (.pair (I r4.1) (.pair (I r6.1) (.pair (I r8.1) (.pair (.eq u) (.eq (.slice none 0 0)))))))),.sl u 30 (.slice Tl) e.2.2.2.1,.obj c 71 (.agg (.pair (.rep Tl x.2.1) (.pair (I x.2.2.1) (.eq (.int .u64 x.2.2.2)))))]) (by kernel_rfl) eO (by kernel_rfl) ?_;obtain⟨Va,Y,h⟩:=aa h;refine fr 2 ?_;refine er rfl rfl rfl (cI rfl rfl xh (am Y)) ⟨rfl,rfl,trivial⟩ λUQ=>?_;refine fl eh ?_;refine sX λo29=>?_;refine fr 2 ?_;refine aM rfl rfl (aL rfl kD o29 rfl rfl) ⟨rfl,rfl,trivial⟩ ?_;refine aC (bn ?_);exact jz (UQ,(x.2.1,x.2.2.1,x.2.2.2,e.2.2.2.1++[x.1])) h [3,2,0,1]
   .refine ab (mq ?_);obtain⟨UN,U,h⟩:=aa h;refine jb (eN rfl U) ?_;refine aq (nl ?_);exact jz (D,(l.1,l.2.1,l.2.2.1,l.2.2.2,UN)) h [0,1,2,3]
  .refine xa ?_;exact jz (u,(e.2.2.2.1,e.1,e.2.1,e.2.2.1)) h [1,2,3,0]
 .
  refine sr (fr 1 ?_);refine fr 2 ?_;refine eB (nn (off:=4) [] trivial rfl rfl) ?_;refine lo hJ ?_;refine fr 1 ?_;refine aM rfl rfl (aL rfl hJ trivial rfl rfl) ⟨rfl,rfl,trivial⟩ ?_;refine nt (ay (bY (SE.fin (Γ':=[(6,_)]) [2,0,1] ⟨rfl,trivial⟩ rfl) ?_));cases h;exact aR () [.agg (.pair (I r2.1) (.pair (I r4.1) (.pair (I r6.1) (.pair (I r8.1) (.pair (.rep (.slice (.slice Tl)) y.1) (.eq (.slice none 0 0)))))))] 1 ⟨⟨_,_,_,_,_,rfl,(.tail _ (.head _)),hJ,(qR),rfl⟩,trivial⟩ rfl
def eF(k:Nat)(r2:ae×bM):Nat->((List Int)×Int×Int×(List bI)×Int)->Option ((List bI)×(List Int)×Int×Int)
 |0,_=>none
 |n+1,y7=>
  if 0 < y7.2.2.2.2 then((ie k (y7.1,y7.2.1,y7.2.2.1) (r2.1.1,r2.1.2.1,r2.1.2.2.1,r2.1.2.2.2.1,r2.1.2.2.2.2.1,())).bind λr9=>
  (cN (bP (length y7.2.2.2.1+length [r9.1]))).bind λ_=>
  (ck (y7.2.2.2.2 - 1)).bind λc=>
  eF k r2 n (r9.2.1,r9.2.2.1,r9.2.2.2,y7.2.2.2.1++[r9.1],c)) else(some (y7.2.2.2.1,y7.1,y7.2.1,y7.2.2.1))
def gi(k:Nat)(a0:bM)(a1:Int)(a2:Int):Option (ae×bM):=
 (jR k (a0.1,a0.2.1,a0.2.2) a1 a2).bind λr2=>
 (((cy k (r2.2.1,r2.2.2.1,r2.2.2.2) 4).bind λr6=>
 eF k r2 k (r6.2.1,r6.2.2.1,r6.2.2.2,([]:(List bI)),r6.1)):Option ((List bI)×(List Int)×Int×Int)).bind λx4=>
 some ((r2.1.1,r2.1.2.1,r2.1.2.2.1,r2.1.2.2.2.1,r2.1.2.2.2.2.1,x4.1),(x4.2.1,x4.2.2.1,x4.2.2.2))
theorem sC(k:Nat)(a0:bM)(c:Nat)(a1:Int)(a2:Int)(r:ae×bM)(h:gi k a0 a1 a2=some r):
 dG Tryz.prog 9 [Pt c,I a1,I a2] [.obj c 71 (.agg (.pair (.rep Tl a0.1) (.pair (I a0.2.1) (.eq (.int .u64 a0.2.2)))))] (λ_:Unit=>(bL [.rep ao r.1],[.obj c 71 (.agg (.pair (.rep Tl r.2.1) (.pair (I r.2.2.1) (.eq (.int .u64 r.2.2.2)))))])):=by
 unfold gi at h
 replace h:=bo h
 refine dG.of 28 Tryz.func9 rfl Tryz.ntmps9 rfl λS w0=>?_
 refine sr ?_
 refine aX rfl rfl rfl (bg rfl yD E6) trivial λb1=>?_
 refine nt ?_
 refine sr ?_
 iterate 3 refine mq ?_
 obtain⟨r2,D,h⟩:=aa h
 have E:=uC k (a0.1,a0.2.1,a0.2.2) c a1 a2 r2 D
 refine fr 1 ?_
 refine kc (aA [.tmp 9,.tmp 10,.tmp 11] rfl rfl TR rfl E) ?_
 refine aX rfl rfl rfl (bg rfl yD E6) trivial λb3=>?_
 refine aM rfl rfl (aL rfl hJ trivial rfl rfl) ⟨rfl,rfl,trivial⟩ ?_
 refine nt ?_
 refine aD (Z:=Value) (α:=(List bI)×(List Int)×Int×Int) (λz5 x4=>[(6,Pt b1),(7,Pt b3)]) (λz5 x4=>[.obj b1 26 (.agg (.pair (I 0) (.pair (I 0) (.pair (I 0) (.pair (I 0) (.pair (.eq (.slice none 0 0)) (.eq (.slice none 0 0)))))))),.obj b3 26 (.agg (.pair (I r2.1.1) (.pair (I r2.1.2.1) (.pair (I r2.1.2.2.1) (.pair (I r2.1.2.2.2.1) (.pair (.rep (.slice (.slice Tl)) r2.1.2.2.2.2.1) (.eq z5))))))),.sl z5 47 bf x4.1,.obj c 71 (.agg (.pair (.rep Tl x4.2.1) (.pair (I x4.2.2.1) (.eq (.int .u64 x4.2.2.2)))))]) h (λK h=>?_) (λz5 x4 h=>?_)
 .
  refine sr (mq ?_);obtain⟨r6,y,h⟩:=aa h;refine fr 1 ?_;refine kb (aA [.tmp 13,.const (.int .i64 (4))] rfl rfl vI rfl (cK k (r2.2.1,r2.2.2.1,r2.2.2.2) c 4 r6 y)) ?_;refine aq (nt (aj ?_));refine iL (SE.nil 47 bf) ?_;refine aF (λz8 y7=>[(0,Pt c),(6,Pt b1),(7,Pt b3),(8,I y7.2.2.2.2)]) (λz8 y7=>[.obj c 71 (.agg (.pair (.rep Tl y7.1) (.pair (I y7.2.1) (.eq (.int .u64 y7.2.2.1))))),.obj b1 26 (.agg (.pair (I 0) (.pair (I 0) (.pair (I 0) (.pair (I 0) (.pair (.eq (.slice none 0 0)) (.eq (.slice none 0 0)))))))),.obj b3 26 (.agg (.pair (I r2.1.1) (.pair (I r2.1.2.1) (.pair (I r2.1.2.2.1) (.pair (I r2.1.2.2.2.1) (.pair (.rep (.slice (.slice Tl)) r2.1.2.2.2.2.1) (.eq z8))))))),.sl z8 47 bf y7.2.2.2.1]) (eF k r2) k (.slice none 0 0) (r6.2.1,r6.2.2.1,r6.2.2.2,([]:(List bI)),r6.1) (λ_=>rfl) h (SE.fin [1,3,2,0] ⟨rfl,rfl,rfl,rfl,trivial⟩ rfl) (λn z8 y7 h=>?_);unfold eF at h;refine ak (sr (mq ?_));refine jb (lT rfl) ?_;refine nt (ci h (λh=>?_) (λh=>?_))
  .refine sk (ak (aj (c9 ?_)));refine da (aH rfl uL) ?_;refine ea 2 (av rfl Gs pr rfl) ?_;refine dm ?_;refine ea 2 (av rfl hJ (qR) rfl) ?_;obtain⟨r9,u,h⟩:=aa h;refine D7 0 rfl rfl rfl rfl (bX (N:=[(.tmp 21,Pt c),(.tmp 22,.agg (.pair (I r2.1.1) (.pair (I r2.1.2.1) (.pair (I r2.1.2.2.1) (.pair (I r2.1.2.2.2.1) (.pair (.rep (.slice (.slice Tl)) r2.1.2.2.2.2.1) (.eq z8)))))))]) (aA [.tmp 21,.tmp 22] rfl rfl TS rfl (sD k (y7.1,y7.2.1,y7.2.2.1) c (r2.1.1,r2.1.2.1,r2.1.2.2.1,r2.1.2.2.2.1,r2.1.2.2.2.2.1,()) r9 u)) λ_ _ _ hn=>⟨hn.1,(LR (t:=(.pair Ti (.pair Ti (.pair Ti (.pair Ti (.pair (.slice (.slice Tl)) .ign)))))) (x:=(r2.1.1,r2.1.2.1,r2.1.2.2.1,r2.1.2.2.2.1,r2.1.2.2.2.2.1,())) (oL (jx .int) (oL (jx .int) (oL (jx .int) (oL (jx .int) (oL (jx .rep) MM))))) hn.2.1),trivial⟩) ⟨rfl,rfl,trivial⟩ ?_;refine da (bb (t:=bf) [(.tmp 23,_)] [r9.1] rfl rfl JX (.cons rfl .rep .nil) rfl rfl) ?_;refine D8 (Δ':=[.obj b1 26 (.agg (.pair (I 0) (.pair (I 0) (.pair (I 0) (.pair (I 0) (.pair (.eq (.slice none 0 0)) (.eq (.slice none 0 0)))))))),.obj b3 26 (.agg (.pair (I r2.1.1) (.pair (I r2.1.2.1) (.pair (I r2.1.2.2.1) (.pair (I r2.1.2.2.2.1) (.pair (.rep (.slice (.slice Tl)) r2.1.2.2.2.2.1) (.eq z8))))))),.sl z8 47 bf y7.2.2.2.1,.obj c 71 (.agg (.pair (.rep Tl r9.2.1) (.pair (I r9.2.2.1) (.eq (.int .u64 r9.2.2.2)))))]) (by kernel_rfl) eO (by kernel_rfl) ?_;obtain⟨F,j,h⟩:=aa h;refine fr 2 ?_;refine er rfl rfl rfl (cI rfl rfl JX (am j)) ⟨rfl,rfl,trivial⟩ λs=>?_;refine fl uL ?_;refine sX λo12=>?_;refine fr 2 ?_;refine aM rfl rfl (aL rfl Gs o12 rfl rfl) ⟨rfl,rfl,trivial⟩ ?_;refine aC (aN (tn (ab (mq ?_))));obtain⟨l,e,h⟩:=aa h;refine jb (eN rfl e) ?_;refine aq (nl ?_);exact jz (s,(r9.2.1,r9.2.2.1,r9.2.2.2,y7.2.2.2.1++[r9.1],l)) h [3,2,0,1]
  .refine xa ?_;exact jz (z8,(y7.2.2.2.1,y7.1,y7.2.1,y7.2.2.1)) h [1,2,3,0]
 .
  refine sr (fr 1 ?_);refine fr 2 ?_;refine eB (nn (off:=5) [] trivial rfl rfl) ?_;refine lo hJ ?_;refine fr 1 ?_;refine aM rfl rfl (aL rfl hJ trivial rfl rfl) ⟨rfl,rfl,trivial⟩ ?_;refine nt (ay (bY (iu (a:=.agg (.pair (I r2.1.1) (.pair (I r2.1.2.1) (.pair (I r2.1.2.2.1) (.pair (I r2.1.2.2.2.1) (.pair (.rep (.slice (.slice Tl)) r2.1.2.2.2.2.1) (Rs bf x4.1))))))) (a':=.rep ao (r2.1.1,r2.1.2.1,r2.1.2.2.1,r2.1.2.2.2.1,r2.1.2.2.2.2.1,x4.1)) (jx (.agg (.pair .int (.pair .int (.pair .int (.pair .int (.pair .rep .rep)))))))) ?_));refine bY (SE.fin (Γ':=[(6,_)]) [2,0,1] ⟨rfl,trivial⟩ rfl) ?_;cases h;exact aR () [.rep ao (r2.1.1,r2.1.2.1,r2.1.2.2.1,r2.1.2.2.2.1,r2.1.2.2.2.2.1,x4.1)] 1 ⟨⟨_,_,_,_,_,rfl,(.tail _ (.head _)),hJ,(qR),rfl⟩,trivial⟩ rfl
def eY(k:Nat)(a0:ae)(a1:(List Int)):Nat->(Int×Int)->Option (Except ((Option ae)×Int×Int) Int)
 |0,_=>none
 |n+1,y5=>
  if y5.2 < (a1.length:Int) then((aJ a1 y5.2).bind λx7=>
  (ck (a0.1 - 1)).bind λx8=>
  (dJ k x7 0 x8).bind λr9=>
  if¬(r9=true) then(some (.error (none,0,3))) else(((if 0 < y5.2 then((ck (y5.2 - 1)).bind λh=>
  (aJ a1 h).bind λe=>
  some (decide (x7≤e))) else(some false)):Option (Bool)).bind λj=>
  if j=true then(some (.error (none,0,5))) else((fV k y5.1 x7).bind λl=>
  (ck (y5.2+1)).bind λc=>
  eY k a0 a1 n (l,c)))) else(some (.ok y5.1))
def dE(k:Nat)(a0:ae)(h:Int)(e:(List Int)):Nat->Int->Option (Except ((Option ae)×Int×Int) Unit)
 |0,_=>none
 |n+1,c=>
  if c < (e.length:Int) then((aJ e c).bind λu=>
  (ck (a0.1 - 1)).bind λs=>
  (ck ((a0.2.2.2.2.1.length:Int) - 1)).bind λr=>
  (aJ [s,r,(a0.2.2.2.2.1.length:Int)] h).bind λl=>
  (dJ k u 0 l).bind λx=>
  if¬(x=true) then(some (.error (none,0,3))) else((ck (c+1)).bind λj=>
  dE k a0 h e n j)) else(some (.ok ()))
def cQ(k:Nat)(a0:ae)(a2:(List Int))(a3:(List Int))(a4:(List Int)):Nat->Int->Option (Except ((Option ae)×Int×Int) Unit)
 |0,_=>none
 |n+1,c=>
  if c < ([a2,a3,a4].length:Int) then(bE (α:=Unit) ((aJ [a2,a3,a4] c).bind λj=>
  dE k a0 c j k 0) (λe=>some (.error e)) λ_=>
  (ck (c+1)).bind λh=>
  cQ k a0 a2 a3 a4 n h) else(some (.ok ()))
def jN(k:Nat)(a0:ae)(a1:(List Int))(a2:(List Int))(a3:(List Int))(a4:(List Int)):Option ((Option ae)×Int×Int):=
 (mI k a0).bind λr2=>
 if¬(r2=0) then(some (none,0,r2)) else(bE (α:=Int) (eY k a0 a1 k (0,0)) (some) λx3=>
 bE (α:=Unit) (cQ k a0 a2 a3 a4 k 0) (some) λ_=>
 (iU k a0).bind λe=>
 f5 e (none) (λc=>(eH k c).bind λh=>
 some (some c,x3,0)))
theorem lW(k:Nat)(a0:ae)(a1:(List Int))(a2:(List Int))(a3:(List Int))(a4:(List Int))(r:(Option ae)×Int×Int)(h:jN k a0 a1 a2 a3 a4=some r):
 bZ (dW Tryz.prog) 37 [.rep ao a0,.rep Tl a1,.rep Tl a2,.rep Tl a3,.rep Tl a4] [] (λz:Nat×Nat=>(bL [J6 r.1 z.1,.eq (.int .u8 r.2.1),I r.2.2],J5 r.1 λq=>qy q z.1 z.2 k)):=by
 unfold jN at h
 replace h:=bo h
 refine bZ.of 95 Tryz.func37 rfl Tryz.ntmps37 rfl λS w0=>?_
 refine sr ?_
 refine bx λb1=>?_
 refine cq ?_
 refine cq ?_
 refine cq ?_
 refine nt ?_
 refine ak ?_
 refine sr ?_
 refine lo hJ ?_
 obtain⟨r2,Ve,h⟩:=aa h
 have Vf:=xI k a0 r2 Ve
 refine ja (aA [.tmp 22] rfl rfl TC rfl Vf) ?_
 refine aq ?_
 refine nt ?_
 refine sr ?_
 refine mq ?_
 refine jb (dZ rfl) ?_
 refine nt ?_
 refine cn h (λh=>?_) (λh=>?_)
 .
  refine sr (mq ?_);refine cq ?_;refine cq ?_;refine aq (nt (rx ?_));cases h;exact aR (0,0) [.eq (.pointer none),_,_] 0 ⟨rfl,rfl,rfl,trivial⟩ rfl
 .
  refine sk (sr (cq (nt ?_)));refine dx (Z:=Unit) (α:=Int) (λz4 x3=>[(2,.rep Tl a2),(3,.rep Tl a3),(4,.rep Tl a4),(5,Pt b1),(14,.eq (.int .u8 x3))]) (λz4 x3=>[.obj b1 26 (.rep ao a0)]) (λe=>e=r) h (λe h=>Option.some.inj h) (λK hR h=>?_) (λz4 x3 h=>?_)
  .refine sr (mq ?_);refine ol iK ?_;refine eP rfl ?_;refine nt (aj (aF (λz6 y5=>[(1,.rep Tl a1),(2,.rep Tl a2),(3,.rep Tl a3),(4,.rep Tl a4),(5,Pt b1),(14,.eq (.int .u8 y5.1)),(27,.rep Tl a1),(28,I (a1.length:Int)),(29,I y5.2)]) (λz6 y5=>[.obj b1 26 (.rep ao a0)]) (eY k a0 a1) k () (0,0) (λ_=>rfl) h (SE.fin [0] ⟨rfl,rfl,rfl,rfl,rfl,rfl,rfl,rfl,rfl,trivial⟩ rfl) (λn z6 y5 h=>?_)));unfold eY at h;refine sr (jb (bK rfl) ?_);refine nt (ak (ci h (λh=>?_) (λh=>?_)))
   .refine sk (ak (aj (sr (mq ?_))));obtain⟨x7,Va,h⟩:=aa h;refine jb (bj (t:=Ti) rfl iK cM Va) ?_;refine ja (au (t:=Ti) rfl cM rfl) ?_;refine aq ?_;refine aq (nt (ak (sr ?_)));refine mq ?_;refine fl gp ?_;refine lo cM ?_;obtain⟨x8,U8,h⟩:=aa h;refine jb (eN rfl U8) ?_;obtain⟨r9,Vb,h⟩:=aa h;refine jc (aA [.tmp 34,.const (.int .i64 (0)),.tmp 37] rfl rfl ye rfl (dO k x7 0 x8 r9 Vb)) ?_;refine ja (iE rfl) ?_;refine nt (cw h (λh=>?_) (λh=>?_))
    .refine sr (cq ?_);refine cq ?_;refine cq (nt (rx (br (aZ (aU ?_)))));obtain rfl:=hR _ h;exact aR (0,0) [.eq (.pointer none),_,_] 0 ⟨rfl,rfl,rfl,trivial⟩ rfl
    .refine sk (ak (aD (Z:=Unit) (α:=Bool) (λO y=>[(1,.rep Tl a1),(2,.rep Tl a2),(3,.rep Tl a3),(4,.rep Tl a4),(5,Pt b1),(14,.eq (.int .u8 y5.1)),(16,I x7),(27,.rep Tl a1),(28,I (a1.length:Int)),(29,I y5.2),(50,.eq (.bool y))]) (λO y=>[.obj b1 26 (.rep ao a0)]) h (λK h=>?_) (λO y h=>?_)))
     .refine ab (mq ?_);refine jb (lT rfl) ?_;refine mq ?_;refine ce (s:=42) rfl (λhb=>?_) (λhb=>?_)
      .replace h:=eM (vJ hb) h;refine gm ?_;refine gm ?_;refine gm ?_;obtain⟨Vi,UR,h⟩:=aa h;refine gb (eN rfl UR) ?_;obtain⟨U1,UQ,h⟩:=aa h;refine gb (bj (t:=Ti) rfl iK cM UQ) ?_;refine ga (au (t:=Ti) rfl cM rfl) ?_;refine gb (zi rfl) ?_;refine pt (nl ?_);exact jz ((),decide (x7≤U1)) h [0]
      .replace h:=cV (vK hb) h;iterate 7 refine gn ?_
       refine pf (nl ?_);exact jz ((),false) h [0]
     .refine cv h (λh=>?_) (λh=>?_)
      .refine sr (cq ?_);refine cq ?_;refine cq (nt (rx (br (aZ (aU ?_)))));obtain rfl:=hR _ h;exact aR (0,0) [.eq (.pointer none),_,_] 0 ⟨rfl,rfl,rfl,trivial⟩ rfl
      .refine sk (ab ?_);iterate 2 refine mq ?_
       obtain⟨Y,UV,h⟩:=aa h;refine jb (aA [.tmp 51,.tmp 52] rfl rfl OT rfl (kl k y5.1 x7 Y UV)) ?_;refine aq (aC (aN (tn (ab ?_))));obtain⟨U0,UP,h⟩:=aa h;refine jb (bh rfl UP) ?_;refine mq (nl ?_);exact jz ((),(Y,U0)) h [0]
   .refine xa ?_;exact jz ((),y5.1) h [0]
  .refine dx (Z:=Unit) (α:=Unit) (λM U=>[(5,Pt b1),(14,.eq (.int .u8 x3))]) (λM U=>[.obj b1 26 (.rep ao a0)]) (λe=>e=r) h (λe h=>Option.some.inj h) (λK hR h=>?_) (λM U h=>?_)
   .refine sr ?_;iterate 3 refine mq ?_
    refine jc (bb (t:=Tl) [(.tmp 55,_),(.tmp 56,_),(.tmp 57,_)] [a2,a3,a4] rfl rfl nE (.cons rfl .rep (.cons rfl .rep (.cons rfl .rep .nil))) rfl rfl) ?_;refine ol qx ?_;refine eP rfl ?_;refine nt (aj (aF (λJ c=>[(5,Pt b1),(14,.eq (.int .u8 x3)),(58,.rep (.slice Tl) [a2,a3,a4]),(59,I ([a2,a3,a4].length:Int)),(60,I c)]) (λJ c=>[.obj b1 26 (.rep ao a0)]) (cQ k a0 a2 a3 a4) k () 0 (λ_=>rfl) h (SE.fin [0] ⟨rfl,rfl,rfl,rfl,rfl,trivial⟩ rfl) (λn J c h=>?_)));unfold cQ at h;refine sr (jb (bK rfl) ?_);refine nt (ak (ci h (λh=>?_) (λh=>?_)))
    .refine sk (dx (Z:=Unit) (α:=Unit) (λE Q=>[(5,Pt b1),(14,.eq (.int .u8 x3)),(58,.rep (.slice Tl) [a2,a3,a4]),(59,I ([a2,a3,a4].length:Int)),(60,I c)]) (λE Q=>[.obj b1 26 (.rep ao a0)]) (λe=>e=r) h (λe h=>hR e h) (λK hR h=>?_) (λE Q h=>?_))
     .refine aj (sr (mq ?_));obtain⟨x,UO,h⟩:=aa h;refine jb (bj (t:=Tl) rfl qx iQ UO) ?_;refine ja (au (t:=Tl) rfl iQ rfl) ?_;refine aq ?_;refine aq (nt (sr ?_));refine mq ?_;refine ol iK ?_;refine eP rfl ?_;refine nt (aj (aF (λD u=>[(5,Pt b1),(14,.eq (.int .u8 x3)),(17,I c),(58,.rep (.slice Tl) [a2,a3,a4]),(59,I ([a2,a3,a4].length:Int)),(60,I c),(65,.rep Tl x),(66,I (x.length:Int)),(67,I u)]) (λD u=>[.obj b1 26 (.rep ao a0)]) (dE k a0 c x) k () 0 (λ_=>rfl) h (SE.fin [0] ⟨rfl,rfl,rfl,rfl,rfl,rfl,rfl,rfl,rfl,trivial⟩ rfl) (λn D u h=>?_)));unfold dE at h;refine sr (jb (bK rfl) ?_);refine nt (ak (ci h (λh=>?_) (λh=>?_)))
      .refine sk (ak (aj (sr ?_)));obtain⟨UZ,UN,h⟩:=aa h;refine jb (bj (t:=Ti) rfl iK cM UN) ?_;refine ja (au (t:=Ti) rfl cM rfl) ?_;refine aq (nt (sr ?_));refine mq ?_;refine fl gp ?_;refine lo cM ?_;obtain⟨Vh,zz,h⟩:=aa h;refine jb (eN rfl zz) ?_;refine fl eh ?_;refine lo kD ?_;refine ol vl ?_;obtain⟨Vg,qt,h⟩:=aa h;refine jb (eN rfl qt) ?_;refine fl eh ?_;refine lo kD ?_;refine ol vl ?_;refine jc (EA rfl Ry cM PZ) ?_;refine mq ?_;obtain⟨UY,mw,h⟩:=aa h;refine jb (jK (t:=Ti) rfl Ry cM rfl rfl (λ_=>rfl) mw) ?_;obtain⟨U6,UU,h⟩:=aa h;refine jc (aA [.tmp 71,.const (.int .i64 (0)),.tmp 84] rfl rfl ye rfl (dO k UZ 0 UY U6 UU)) ?_;refine ja (iE rfl) ?_;refine nt (cw h (λh=>?_) (λh=>?_))
       .refine sr (cq ?_);refine cq ?_;refine cq (nt (ay (br (aZ (br (aZ (aU ?_)))))));obtain rfl:=hR _ h;exact aR (0,0) [.eq (.pointer none),_,_] 0 ⟨rfl,rfl,rfl,trivial⟩ rfl
       .refine aY (aN (tn (ab ?_)));obtain⟨UX,mc,h⟩:=aa h;refine jb (bh rfl mc) ?_;refine mq (nl ?_);exact jz ((),UX) h [0]
      .refine eu (bv (bv (cH (bn ?_))));exact jz ((),()) h [0]
     .refine ab ?_;obtain⟨UW,gw,h⟩:=aa h;refine jb (bh rfl gw) ?_;refine mq (nl ?_);exact jz ((),UW) h [0]
    .refine xa ?_;exact jz ((),()) h [0]
   .refine sr (lo hJ ?_);obtain⟨X,UT,h⟩:=aa h;have j:=ny k a0 X UT;rcases hr:X with _ |U7
    .rw [hr] at h j;replace h:=uR h;refine aI (Δ:=[]) (F:=_) (λ_ _ _=>ag rfl _) rfl rfl (aA [.tmp 89] rfl rfl Lp rfl j) ⟨rfl,trivial⟩ λ_=>?_;cases h
    .rw [hr] at h j;replace h:=uQ h;refine aI (Δ:=[]) (F:=_) (λ_ _ _=>ag rfl _) rfl rfl (aA [.tmp 89] rfl rfl Lp rfl j) ⟨rfl,trivial⟩ λl=>?_;refine aq (nt (sr ?_));refine mq ?_;obtain⟨U2,US,h⟩:=aa h;refine fr 1 ?_;refine fr 1 ?_;refine aI (Δ:=[_,_]) (F:=_) (λ_ _ _=>ag rfl _) rfl rfl (aV [.tmp 91] rfl rfl TB rfl (pY k U7 l.1 l.2 U2 US)) ⟨rfl,trivial⟩ λ_=>?_;refine nt (sr ?_);iterate 2 refine mq ?_
     refine aq ?_;refine aq ?_;refine cq (nt (ay ?_));cases h;exact aR (l.1,l.2) [.eq (.pointer (some ⟨l.1,0,none⟩)),_,_] 2 ⟨rfl,rfl,rfl,trivial⟩ rfl
def cz(k:Nat)(a0:ae)(a2:Int)(r1:(List (List Int))):Nat->Int->Option Bool
 |0,_=>none
 |n+1,y3=>
  if y3 < (a0.2.2.2.2.2.length:Int) then((aJ a0.2.2.2.2.2 y3).bind λx5=>
  (((eX k a2 y3).bind λr9=>
  if¬(r9=true) then((aJ r1 x5.2.1).bind λh=>
  (aJ h x5.1).bind λe=>
  some (!decide ((decide (a0.2.2.1≤e))=x5.2.2))) else(some false)):Option (Bool)).bind λx7=>
  if x7=true then(some false) else((ck (y3+1)).bind λc=>
  cz k a0 a2 r1 n c)) else(some true)
def gr(k:Nat)(a0:ae)(a1:Int)(a2:Int):Option Bool:=
 (kw k a0 a1).bind λr1=>
 cz k a0 a2 r1 k 0
theorem og(k:Nat)(a0:ae)(c z_a0:Nat)(a1:Int)(a2:Int)(r:Bool)(h:gr k a0 a1 a2=some r):
 Cc (dW Tryz.prog) 109 [Pt c,.eq (.int .u8 a1),.eq (.int .u8 a2)] [.obj c 125 (aQ a0 z_a0),.inv z_a0 (bR k a0)] (.iface 156 (.agg #[])) r:=by
 unfold gr at h
 replace h:=bo h
 refine Cc.of 48 Tryz.func109 rfl Tryz.ntmps109 rfl λS w0=>?_
 refine sr ?_
 iterate 2 refine mq ?_
 obtain⟨r1,E,h⟩:=aa h
 have J:=ni k a0 c z_a0 a1 r1 E
 refine fr 1 ?_
 refine fr 1 ?_
 refine aI (Δ:=[_,_]) (F:=_) (λ_ _ _=>ag rfl _) rfl rfl (aV [.tmp 9,.tmp 10] rfl rfl BM rfl J) ⟨rfl,rfl,trivial⟩ λ_=>?_
 refine aX rfl rfl rfl (bg rfl FG IE) trivial λb2=>?_
 refine aM rfl rfl (aL rfl Gq rfl rfl rfl) ⟨rfl,rfl,trivial⟩ ?_
 refine eB (jr (t:=(.arr 7 Tr)) (x:=r1) [6] .rep ⟨rfl,trivial⟩) ?_
 refine nt ?_
 refine sr ?_
 refine mq ?_
 refine ja (cO rfl) ?_
 refine fl gY ?_
 refine fl uL ?_
 refine lo Gs ?_
 refine ol Rx ?_
 refine eP rfl ?_
 refine nt ?_
 refine aj ?_
 refine aF (λz4 y3=>[(0,Pt c),(2,.eq (.int .u8 a2)),(6,.at (.arr 7 Tr) r1),(16,Rs bf a0.2.2.2.2.2),(17,I (a0.2.2.2.2.2.length:Int)),(18,I y3)]) (λz4 y3=>[.obj c 125 (aQ a0 z_a0),.inv z_a0 (bR k a0)]) (cz k a0 a2 r1) k () 0 (λ_=>rfl) h (SE.fin [0,1] ⟨rfl,rfl,rfl,rfl,rfl,rfl,trivial⟩ rfl) (λn z4 y3 h=>?_)
 unfold cz at h
 refine sr ?_
 refine jb (bK rfl) ?_
 refine nt ?_
 refine ak ?_
 refine ci h (λh=>?_) (λh=>?_)
 .
  refine sk (ak (aj (sr (mq ?_))));obtain⟨x5,y,h⟩:=aa h;refine jb (bj (t:=bf) rfl Rx tV y) ?_;refine ja (au (t:=bf) rfl tV rfl) ?_;refine aX rfl rfl rfl (bg rfl Ea LP) trivial λb6=>?_;refine aq ?_;refine aM rfl rfl (aL rfl tV rfl rfl rfl) ⟨rfl,rfl,trivial⟩ ?_;refine nt (aD (Z:=Unit) (α:=Bool) (λz8 x7=>[(0,Pt c),(2,.eq (.int .u8 a2)),(6,.at (.arr 7 Tr) r1),(16,Rs bf a0.2.2.2.2.2),(17,I (a0.2.2.2.2.2.length:Int)),(18,I y3),(44,.eq (.bool x7))]) (λz8 x7=>[.obj c 125 (aQ a0 z_a0),.inv z_a0 (bR k a0)]) h (λK h=>?_) (λz8 x7 h=>?_))
  .refine c9 ?_;refine dm ?_;refine dm ?_;obtain⟨r9,D,h⟩:=aa h;refine db (aA [.tmp 23,.tmp 24] rfl rfl Ij rfl (gJ k a2 y3 r9 D)) ?_;refine da (iE rfl) ?_;refine yy rfl rfl rfl (bJ rfl) ⟨rfl,trivial⟩ (λhb=>?_) (λhb=>?_)
   .replace h:=eM (xC hb) h;refine d5 rfl rfl rfl rfl rfl (aH rfl Ia) ⟨rfl,rfl,trivial⟩ ?_;refine kQ 0 rfl rfl rfl rfl rfl rfl (av rfl cM pr rfl) ⟨rfl,rfl,trivial⟩ ?_;refine d5 rfl rfl rfl rfl rfl (aH rfl Ib) ⟨rfl,rfl,trivial⟩ ?_;refine kQ 0 rfl rfl rfl rfl rfl rfl (av rfl cM pr rfl) ⟨rfl,rfl,trivial⟩ ?_;obtain⟨M,l,h⟩:=aa h;refine d5 rfl rfl rfl rfl rfl (cu (t:=Tr) rfl IM iP l) ⟨rfl,rfl,rfl,trivial⟩ ?_;obtain⟨u,j,h⟩:=aa h;refine d5 rfl rfl rfl rfl rfl (cu (t:=Ti) rfl AM cM j) ⟨rfl,rfl,rfl,trivial⟩ ?_;refine d5 rfl rfl rfl rfl rfl (au (t:=Ti) rfl cM rfl) ⟨rfl,rfl,trivial⟩ ?_;refine d5 rfl rfl rfl rfl rfl (bJ rfl) ⟨rfl,rfl,trivial⟩ ?_;refine d5 rfl rfl rfl rfl rfl (cO rfl) ⟨rfl,rfl,trivial⟩ ?_;refine d5 rfl rfl rfl rfl rfl (aH rfl gY) ⟨rfl,rfl,trivial⟩ ?_;refine d5 rfl rfl rfl rfl rfl (aH rfl BF) ⟨rfl,rfl,trivial⟩ ?_;refine kQ 1 rfl rfl rfl rfl rfl rfl (av rfl cM pr rfl) ⟨rfl,rfl,trivial⟩ ?_;refine d5 rfl rfl rfl rfl rfl (jh rfl) ⟨rfl,rfl,rfl,trivial⟩ ?_;refine d5 rfl rfl rfl rfl rfl (aH rfl OP) ⟨rfl,rfl,trivial⟩ ?_;refine kQ 0 rfl rfl rfl rfl rfl rfl (av rfl Uz pr rfl) ⟨rfl,rfl,trivial⟩ ?_;refine df eO ?_;refine gb (Ox rfl U4) ?_;refine pt (nl ?_);exact jz ((), !decide ((decide (a0.2.2.1≤u))=x5.2.2)) h [1,2]
   .replace h:=cV (qN hb) h;iterate 15 refine dg ?_
    refine df eO ?_;refine gn ?_;refine pf (nl ?_);exact jz ((),false) h [1,2]
  .refine cv h (λh=>?_) (λh=>?_)
   .refine ab (cf rfl (Hf rfl Pn PY) trivial ?_);refine ja (G9 rfl Pn) ?_;refine Fo rfl rfl rfl rfl ?_;refine Ax ?_;refine sY ?_;refine sY ?_;refine Ax ?_;refine bY (SE.fin (Γ':=[]) [0,1] trivial rfl) ?_;cases h;exact MC
   .refine aY (aN (tn (ab ?_)));obtain⟨s,e,h⟩:=aa h;refine jb (bh rfl e) ?_;refine mq (nl ?_);exact jz ((),s) h [0,1]
 .
  refine eu (bv (bv (cH (j6 ?_))));refine bY (SE.fin (Γ':=[]) [0,1] trivial rfl) ?_;cases h;exact aR () [] 2 trivial rfl
def dj(k:Nat)(a0:ae)(a1:Int)(a2:Int):Option Bool:=gr k a0 a1 a2
theorem MZ:Po Tryz.prog 156 (.agg #[]):=⟨⟨_,Pn⟩,λw=>by kernel_rfl⟩
theorem Il:∀(S:FS) (w:World),(A.rep (.arr 0 Ti) []).holds S w (.agg #[]):=λ_ _=>⟨[],⟨rfl,rfl⟩,rfl⟩
theorem MO:∀w,(zeroValue 156).run Tryz.prog w= .ok (.agg #[]) w:=λw=>by kernel_rfl
theorem Nz:∀S w,(A.cells S w (.rep (.arr 0 Ti) []) (Value.cells (.agg #[])).toList):=λ_ _=>⟨rfl,rfl⟩
theorem M5:ek Tryz.prog 156 0 true:=⟨λw=>by kernel_rfl,λw=>by kernel_rfl⟩
theorem Rm:ah Tryz.prog 108:=ah.of Tryz.func108 (by kernel_rfl) (by kernel_rfl)
theorem Nl:ah Tryz.prog 109:=ah.of Tryz.func109 (by kernel_rfl) (by kernel_rfl)
theorem JI:ek Tryz.prog 4 1 false:=⟨λw=>by kernel_rfl,λw=>by kernel_rfl⟩
theorem SB:∀w,(zeroValue 4).run Tryz.prog w= .ok (.bool false) w:=λw=>by kernel_rfl
theorem T8:∀S w,(A.cells S w (.eq (.bool false)) (Value.cells (.bool false)).toList):=λ_ _=>⟨rfl,rfl⟩
theorem Ac:yz Tryz.prog 108 (.iface 156 (.agg #[])) 4 (.bool false):=by
 refine⟨Rm,λM e0=>?_,λM e0=>?_⟩
 .refine lK.of (M:=M) (m:=.returning) (m1:=.returning) (val:=.nilIface) Tryz.func108 rfl rfl (by decide) rfl rfl (by decide) (λρ=>rfl) (λfr b cs hb hm=>GR hb hm rfl) (.inl rfl) λb S w0=>?_;refine ja (J9 Il rfl MZ) ?_;refine mq ?_;refine xr ?_;refine xr ?_;refine aX rfl rfl rfl (bg rfl MO Nz) trivial λb1=>?_;refine aM rfl rfl (aL rfl M5 rfl rfl rfl) ⟨rfl,rfl,trivial⟩ ?_;refine aq (nt (sr ?_));refine mq (nt ?_);refine jf rfl (λhb=>by cases hb) (λhb=>?_);refine aY (j6 ?_);refine bY (SE.fin (Γ':=[]) [1] trivial rfl) ?_;exact aR () [] 1 trivial rfl
 .refine lK.of (M:=M) (m:=.panicking (g9 (.iface 156 (.agg #[])) false)) (m1:=.panicking (g9 (.iface 156 (.agg #[])) true)) (val:=.iface 156 (.agg #[])) Tryz.func108 rfl rfl (by decide) rfl rfl (by decide) (λρ=>rfl) (λfr b cs hb hm=>GQ hb hm) (.inr ⟨_,rfl⟩) λb S w0=>?_;refine ja (J8 Il rfl MZ) ?_;refine mq ?_;refine xr ?_;refine xr ?_;refine aX rfl rfl rfl (bg rfl MO Nz) trivial λb1=>?_;refine aM rfl rfl (aL rfl M5 rfl rfl rfl) ⟨rfl,rfl,trivial⟩ ?_;refine aq (nt (sr ?_));refine mq (nt ?_);refine jf rfl (λhb=>?_) (λhb=>by cases hb);refine ab (fr 1 ?_);refine aM rfl rfl (aL rfl JI rfl rfl rfl) ⟨rfl,rfl,trivial⟩ ?_;refine aC (j6 ?_);refine bY (SE.fin (Γ':=[]) [0] trivial rfl) ?_;exact aR () [] 1 trivial rfl
theorem nH(k:Nat)(a0:ae)(c z_a0:Nat)(a1:Int)(a2:Int)(r:Bool)(h:dj k a0 a1 a2=some r):
 bZ (dW Tryz.prog) 74 [Pt c,.eq (.int .u8 a1),.eq (.int .u8 a2)] (qy a0 c z_a0 k) (λ_:Unit=>(bL [.eq (.bool r)],qy a0 c z_a0 k)):=by
 have cr:=og k a0 c z_a0 a1 a2 r h
 refine AB 12 Tryz.func74 rfl Tryz.ntmps74 rfl λS w0=>?_
 refine sr ?_
 refine aX rfl rfl rfl (bg rfl SB T8) trivial λb6=>?_
 refine nt ?_
 refine sr ?_
 refine ja (rV [] [.tmp 6] [] [(Pv b6)] rfl rfl rfl) ?_
 refine I1 rfl rfl rfl rfl rfl ?_
 refine nt ?_
 refine sr ?_
 iterate 3 refine mq ?_
 refine fr 2 ?_
 refine fr 2 ?_
 cases r with
 |false=>
  refine I2 (Ss:=[Pt c,.eq (.int .u8 a1),.eq (.int .u8 a2)]) (Δ:=qy a0 c z_a0 k) (F:=[.obj b6 4 (.eq (.bool false))]) [.tmp 8,.tmp 9,.tmp 10] rfl rfl rfl rfl Nl ⟨rfl,rfl,rfl,trivial⟩ cr ?_;refine sY ?_;refine bY (SE.fin (Γ':=[(6,_)]) [2,0,1] ⟨rfl,trivial⟩ rfl) ?_;refine Fp Ac ?_;refine bY (SE.fin (Γ':=[(6,_)]) [1,2,0] ⟨rfl,trivial⟩ rfl) ?_;exact aR () [.eq (.bool false)] 2 ⟨⟨_,_,_,_,_,rfl,(.tail _ (.tail _ (.head _))),JI,(λ_=>rfl),rfl⟩,trivial⟩ rfl
 |true=>
  refine aI (Δ:=qy a0 c z_a0 k) (F:=[.obj b6 4 (.eq (.bool false))]) (λ_ _ _=>ag rfl _) rfl rfl (aV [.tmp 8,.tmp 9,.tmp 10] rfl rfl Nl rfl cr.ok) ⟨rfl,rfl,rfl,trivial⟩ λ_=>?_;refine nt (sr (fr 2 ?_));refine aM rfl rfl (aL rfl JI rfl rfl rfl) ⟨rfl,rfl,trivial⟩ ?_;refine nt (ay (MB Ac ?_));refine bY (SE.fin (Γ':=[(6,_)]) [1,2,0] ⟨rfl,trivial⟩ rfl) ?_;exact aR () [.eq (.bool true)] 2 ⟨⟨_,_,_,_,_,rfl,(.tail _ (.tail _ (.head _))),JI,(λ_=>rfl),rfl⟩,trivial⟩ rfl
def eE(k:Nat)(a0:ae)(a1:Int):Option (List Int):=
 (jP k (qE (λ(y5:(List Int)) (p7:Int)=>
  (dj k a0 p7 a1).bind λr9=>
  if r9=true then((cN (bP (length y5+length [p7]))).bind λ_=>
  some (y5++[p7],true)) else(some (y5,true)))) a0.1 (([]:(List Int)),false)).bind λr8=>
 if r8.2=true then(none) else(some r8.1)
theorem kz(k:Nat)(a0:ae)(c z_a0:Nat)(a1:Int)(r:(List Int))(h:eE k a0 a1=some r):
 bZ (dW Tryz.prog) 38 [Pt c,.eq (.int .u8 a1)] [.obj c 125 (aQ a0 z_a0),.inv z_a0 (bR k a0)] (λ_:Unit=>(bL [.rep (.slice (.int .u8)) r],[.obj c 125 (aQ a0 z_a0),.inv z_a0 (bR k a0)])):=by
 unfold eE at h
 replace h:=bo h
 refine vf 23 Tryz.func38 rfl Tryz.ntmps38 rfl λS w0=>?_
 refine sr ?_
 refine bx λb1=>?_
 refine bx λb2=>?_
 refine cq ?_
 refine nt ?_
 refine sr ?_
 refine aX rfl rfl rfl (bg rfl Jm LO) trivial λb3=>?_
 refine nt ?_
 refine ak ?_
 refine sr ?_
 refine fr 2 ?_
 refine lo JH ?_
 refine ja (cO rfl) ?_
 refine fl gY ?_
 refine fl gp ?_
 refine fr 3 ?_
 refine lo cM ?_
 refine aX rfl rfl rfl (aA [.tmp 11] rfl rfl QZ rfl (qV a0.1)) ⟨rfl,trivial⟩ λb4=>?_
 refine nt ?_
 refine aj ?_
 refine iL (SE.nil 73 (.int .u8)) ?_
 refine dX 6 rfl ?_
 refine dX 6 rfl ?_
 refine dX 2 rfl ?_
 refine dX 6 rfl ?_
 refine dX 6 rfl ?_
 refine dX 6 rfl ?_
 refine dX 6 rfl ?_
 obtain⟨r8,s,h⟩:=aa h
 refine rG (Δ:=[.obj b4 3 (I a0.1),.obj c 125 (aQ a0 z_a0),.obj b1 72 (Pt c),.obj b3 76 (.eq (.slice none 0 0)),.sl (.slice none 0 0) 73 (.int .u8) ([]:(List Int)),.obj b2 73 (.eq (.int .u8 a1)),.inv z_a0 (bR k a0)]) (F:=[]) (X:=Value) (J:=λ_=>PU r8.2) (E:=λz6=>[.obj b4 3 (I a0.1),.obj c 125 (aQ a0 z_a0),.obj b1 72 (Pt c),.obj b3 76 (.eq z6),.sl z6 73 (.int .u8) r8.1,.obj b2 73 (.eq (.int .u8 a1)),.inv z_a0 (bR k a0)]) (r0:=λ_=>.tup .any) rfl rfl Np (λrec hp ha hb hs hpe hN hv l=>?_) (λdl z6=>tX (λhj=>?_) (λhj=>?_))
 .
  rcases rec with⟨st0,pe0,fn0,tm0,ps0,as0,bd0,df0⟩;dsimp only at hp ha hb hs hpe hN hv;subst hp hs hpe;have vN:Ap tm0 [(2,Pt b1),(3,Pt b2),(5,Pt b3)]:=⟨congrArg A.eq (hv 2 _ rfl).symm,congrArg A.eq (hv 3 _ rfl).symm,congrArg A.eq (hv 5 _ rfl).symm,trivial⟩;refine bZ.pick (M:=(dW Tryz.prog)) [1,0,2,3,4,5,6,7] [1,0,2,3,4,5,6,7] (oh (λ(z6:Value) (q:(List Int)×Bool)=>[.raw l (.loop (kg ⟨.ready,none,fn0,tm0, #[13],as0,bd0,df0⟩ (PU q.2))),.obj c 125 (aQ a0 z_a0),.obj b1 72 (Pt c),.obj b3 76 (.eq z6),.sl z6 73 (.int .u8) q.1,.obj b2 73 (.eq (.int .u8 a1)),.inv z_a0 (bR k a0)]) l (qE (λ(y5:(List Int)) (p7:Int)=>
  (dj k a0 p7 a1).bind λr9=>
  if r9=true then((cN (bP (length y5+length [p7]))).bind λ_=>
  some (y5++[p7],true)) else(some (y5,true)))) k a0.1 b4 (λz6 q p r' h=>?_) (.slice none 0 0) (([]:(List Int)),false) r8 s) rfl (λ_=>rfl) (λ_=>rfl)
  obtain⟨rq,hq,h2,rfl⟩:=tY h;obtain⟨y5,b5⟩:=q;obtain rfl:b5=false:=hq;replace h:=bo h2;obtain⟨p7,hpv⟩:∃x,x=p:=⟨_,rfl⟩;subst hpv;refine YT.pick (R':=(λz6:Value=>(.eq (.bool rq.2),[.raw l (.loop (kg ⟨.ready,none,fn0,tm0, #[13],as0,bd0,df0⟩ (PU (!rq.2)))),.obj c 125 (aQ a0 z_a0),.obj b1 72 (Pt c),.obj b3 76 (.eq z6),.sl z6 73 (.int .u8) rq.1,.obj b2 73 (.eq (.int .u8 a1)),.inv z_a0 (bR k a0)]))) [0,1,2,3,4,5,6] [0,1,2,3,4,5,6] (IH ha hb (N:=23) (Γ:=[(2,Pt b1),(3,Pt b2),(5,Pt b3)]) rfl hN (by decide) vN (λS w=>?_)) rfl (λ_=>rfl) (λ_=>rfl);refine ab (aq (nl ?_));refine Az rfl rfl ?_;refine aj (sr (fr 2 ?_));refine lo JH ?_;refine mq ?_;refine fr 5 ?_;refine lo nP ?_;obtain⟨r9,n,h⟩:=aa h;refine fr 6 ?_;refine fr 4 ?_;refine aI (Δ:=[_,_]) (F:=_) (λ_ _ _=>ag rfl _) rfl rfl (aV [.tmp 14,.tmp 15,.tmp 16] rfl rfl TA rfl (nH k a0 c z_a0 p7 a1 r9 n)) ⟨rfl,rfl,rfl,trivial⟩ λ_=>?_;refine nt (cv h (λh=>?_) (λh=>?_))
  .refine ab (fr 5 ?_);refine lo xf ?_;refine mq ?_;refine ja (bb (t:=(.int .u8)) [(.tmp 19,_)] [p7] rfl rfl JW (.cons rfl .int .nil) rfl rfl) ?_;obtain⟨u,e,h⟩:=aa h;refine fr 6 ?_;refine er rfl rfl rfl (cI rfl rfl JW (am e)) ⟨rfl,rfl,trivial⟩ λj=>?_;refine sX λo12=>?_;refine fr 1 ?_;refine aM rfl rfl (aL rfl xf o12 rfl rfl) ⟨rfl,rfl,trivial⟩ ?_;refine aC (aN (bz 3 rfl ?_));refine bz 4 rfl ?_;refine bz 3 rfl ?_;refine bz 3 rfl ?_;refine bz 5 rfl ?_;refine bz 5 rfl ?_;refine bz 6 rfl ?_;cases h;exact pm j 6 rfl
  .refine aY (aN (bz 1 rfl ?_));refine bz 2 rfl ?_;refine bz 6 rfl ?_;refine bz 6 rfl ?_;refine bz 5 rfl ?_;refine bz 5 rfl ?_;refine bz 6 rfl ?_;cases h;exact pm z6 6 rfl
 .
  replace h:=cV (MY hj) h;refine aN (tn (sr (fr 4 ?_)));refine lo xf ?_;refine aq (nt (ay ?_));refine bz 5 rfl ?_;refine bY (nn (off:=0) [4,22] ⟨rfl,rfl,trivial⟩ rfl rfl) ?_;refine bz 1 rfl ?_;refine DZ ?_;refine bY (SE.fin (Γ':=[(4,_)]) [2,5,0,1,3,4] ⟨rfl,trivial⟩ rfl) ?_;cases h;exact aR () [_] 2 ⟨rfl,trivial⟩ rfl
 .
  replace h:=eM (MV hj) h;cases h
def eA(k:Nat)(r7:(List Int)):Nat->((List (List Int))×Int)->Option (List (List Int))
 |0,_=>none
 |n+1,y8=>
  if y8.2 < (r7.length:Int) then((aJ r7 y8.2).bind λh=>
  (fW k h).bind λc=>
  (cN (bP (length y8.1+length [c]))).bind λ_=>
  (ck (y8.2+1)).bind λe=>
  eA k r7 n (y8.1++[c],e)) else(some y8.1)
def iy(k:Nat)(a0:ae):Option ((List (List Int))×Int):=
 (jN k a0 ([]:(List Int)) ([]:(List Int)) ([]:(List Int)) ([]:(List Int))).bind λr2=>
 f5 r2.1 (if¬(r2.2.2=0) then(some (([]:(List (List Int))),r2.2.2)) else(none)) (λq3=>if¬(r2.2.2=0) then(some (([]:(List (List Int))),r2.2.2)) else((((eE k q3 0).bind λr7=>
 eA k r7 k (([]:(List (List Int))),0)):Option ((List (List Int)))).bind λx5=>
 some (x5,0)))
theorem pG(k:Nat)(a0:ae)(r:(List (List Int))×Int)(h:iy k a0=some r):
 bZ (dW Tryz.prog) 11 [.rep ao a0] [] (λ_:Unit=>(bL [.rep (.slice Tl) r.1,I r.2],[])):=by
 unfold iy at h
 replace h:=bo h
 refine bZ.of 33 Tryz.func11 rfl Tryz.ntmps11 rfl λS w0=>?_
 refine sr ?_
 refine bx λb1=>?_
 refine cq ?_
 refine cq ?_
 refine nt ?_
 refine sr ?_
 refine lo hJ ?_
 obtain⟨r2,M,h⟩:=aa h
 have c:=lW k a0 ([]:(List Int)) ([]:(List Int)) ([]:(List Int)) ([]:(List Int)) r2 M
 rcases hr:r2.1 with _ |q3
 .
  rw [hr] at h c;replace h:=uR h;refine aI (Δ:=[]) (F:=_) (λ_ _ _=>ag rfl _) rfl rfl (bX (N:=[(.tmp 11,.rep ao a0),(.const (.slice none 0 0),.eq (.slice none 0 0)),(.const (.slice none 0 0),.eq (.slice none 0 0)),(.const (.slice none 0 0),.eq (.slice none 0 0)),(.const (.slice none 0 0),.eq (.slice none 0 0))]) (aV [.tmp 11,.const (.slice none 0 0),.const (.slice none 0 0),.const (.slice none 0 0),.const (.slice none 0 0)] rfl rfl zT rfl c) λ_ _ _ hn=>⟨hn.1,(aG (t:=Tl) (x:=([]:(List Int))) .nil rfl rfl hn.2.1),(aG (t:=Tl) (x:=([]:(List Int))) .nil rfl rfl hn.2.2.1),(aG (t:=Tl) (x:=([]:(List Int))) .nil rfl rfl hn.2.2.2.1),(aG (t:=Tl) (x:=([]:(List Int))) .nil rfl rfl hn.2.2.2.2.1),trivial⟩) ⟨rfl,rfl,rfl,rfl,rfl,trivial⟩ λ_=>?_;refine mq ?_;refine xr ?_;refine xr ?_;refine xr ?_;refine aq ?_;refine aq ?_;refine aq (nt (ak (sr ?_)));refine mq ?_;refine jb (dZ rfl) ?_;refine nt (cn h (λh=>?_) (λh=>?_))
  .refine sr (mq ?_);refine cq ?_;refine aq (nt (rx ?_));refine bY (dV (t:=(.slice Tl)) (x:=([]:(List (List Int)))) 2 rfl .nil rfl rfl) ?_;cases h;exact rb
  .cases h
 .
  rw [hr] at h c;replace h:=uQ h;refine aI (Δ:=[]) (F:=_) (λ_ _ _=>ag rfl _) rfl rfl (bX (N:=[(.tmp 11,.rep ao a0),(.const (.slice none 0 0),.eq (.slice none 0 0)),(.const (.slice none 0 0),.eq (.slice none 0 0)),(.const (.slice none 0 0),.eq (.slice none 0 0)),(.const (.slice none 0 0),.eq (.slice none 0 0))]) (aV [.tmp 11,.const (.slice none 0 0),.const (.slice none 0 0),.const (.slice none 0 0),.const (.slice none 0 0)] rfl rfl zT rfl c) λ_ _ _ hn=>⟨hn.1,(aG (t:=Tl) (x:=([]:(List Int))) .nil rfl rfl hn.2.1),(aG (t:=Tl) (x:=([]:(List Int))) .nil rfl rfl hn.2.2.1),(aG (t:=Tl) (x:=([]:(List Int))) .nil rfl rfl hn.2.2.2.1),(aG (t:=Tl) (x:=([]:(List Int))) .nil rfl rfl hn.2.2.2.2.1),trivial⟩) ⟨rfl,rfl,rfl,rfl,rfl,trivial⟩ λz4=>?_;refine mq ?_;refine xr ?_;refine xr ?_;refine xr ?_;refine aq ?_;refine aq ?_;refine aq (nt (ak (sr ?_)));refine mq ?_;refine jb (dZ rfl) ?_;refine nt (cn h (λh=>?_) (λh=>?_))
  .refine sr (mq ?_);refine cq ?_;refine aq (nt (rx ?_));refine bY (dV (t:=(.slice Tl)) (x:=([]:(List (List Int)))) 2 rfl .nil rfl rfl) ?_;cases h;exact rb
  .refine sk (sr (cq (nt ?_)));refine aD (Z:=Value) (α:=(List (List Int))) (λz6 x5=>[(7,.eq z6)]) (λz6 x5=>[.sl z6 22 Tl x5,.inv z4.2 (bR k q3)]) h (λK h=>?_) (λz6 x5 h=>?_)
   .refine sr (mq ?_);obtain⟨r7,J,h⟩:=aa h;refine fr 1 ?_;refine fr 1 ?_;refine aI (Δ:=[_,_]) (F:=_) (λ_ _ _=>ag rfl _) rfl rfl (aV [.tmp 19,.const (.int .u8 (0))] rfl rfl Q3 rfl (kz k q3 z4.1 z4.2 0 r7 J)) ⟨rfl,rfl,trivial⟩ λ_=>?_;refine ol yq ?_;refine eP rfl ?_;refine nt (aj (iL (SE.nil 22 Tl) ?_));refine aF (λz9 y8=>[(7,.eq z9),(20,.rep (.slice (.int .u8)) r7),(21,I (r7.length:Int)),(22,I y8.2)]) (λz9 y8=>[.sl z9 22 Tl y8.1,.inv z4.2 (bR k q3)]) (eA k r7) k (.slice none 0 0) (([]:(List (List Int))),0) (λ_=>rfl) h (SE.fin [0,2] ⟨rfl,rfl,rfl,rfl,trivial⟩ rfl) (λn z9 y8 h=>?_);unfold eA at h;refine sr (jb (bK rfl) ?_);refine nt (ak (ci h (λh=>?_) (λh=>?_)))
    .refine sk (ak (aj (sr ?_)));obtain⟨D,l,h⟩:=aa h;refine jb (bj (t:=(.int .u8)) rfl yq nP l) ?_;refine ja (au (t:=(.int .u8)) rfl nP rfl) ?_;refine aq (nt (ab ?_));iterate 2 refine mq ?_
     obtain⟨e,u,h⟩:=aa h;refine ja (aA [.tmp 27] rfl rfl OX rfl (km k D e u)) ?_;refine ja (bb (t:=Tl) [(.tmp 28,_)] [e] rfl rfl nE (.cons rfl .rep .nil) rfl rfl) ?_;obtain⟨O,s,h⟩:=aa h;refine er rfl rfl rfl (cI rfl rfl nE (am s)) ⟨rfl,rfl,trivial⟩ λE=>?_;refine aq (aC (aN (tn (ab ?_))));obtain⟨y,j,h⟩:=aa h;refine jb (bh rfl j) ?_;refine mq (nl ?_);exact jz (E,(y8.1++[e],y)) h [0,1]
    .refine xa ?_;exact jz (z9,y8.1) h [0,1]
   .refine sr (mq ?_);refine aq ?_;refine cq (nt (ay ?_));refine bY (jt [2,7,32] ⟨rfl,rfl,rfl,trivial⟩) ?_;cases h;exact rb
def ew(k:Nat)(a0:ae)(r5:(List (List Int)))(x9:Int):Nat->((List (List Int))×Int)->Option (List (List Int))
 |0,_=>none
 |n+1,c=>
  if c.2 < x9 then((aJ r5 c.2).bind λj=>
  (cN (0≤a0.1/\a0.1≤5)).bind λ_=>
  (ia k (List.take (Int.toNat a0.1) j)).bind λe=>
  (cN (bP (length c.1+length [e]))).bind λ_=>
  (ck (c.2+1)).bind λh=>
  ew k a0 r5 x9 n (c.1++[e],h)) else(some c.1)
def ix(k:Nat)(a0:ae)(a1:(List Int)):Option ((List (List Int))×Int):=
 (jN k a0 a1 ([]:(List Int)) ([]:(List Int)) ([]:(List Int))).bind λr2=>
 f5 r2.1 (if¬(r2.2.2=0) then(some (([]:(List (List Int))),r2.2.2)) else(none)) (λq3=>if¬(r2.2.2=0) then(some (([]:(List (List Int))),r2.2.2)) else((kw k q3 r2.2.1).bind λr5=>
 (((ck ((a0.2.2.2.2.1.length:Int)+1)).bind λx9=>
 ew k a0 r5 x9 k (([]:(List (List Int))),0)):Option ((List (List Int)))).bind λx7=>
 some (x7,0)))
theorem pE(k:Nat)(a0:ae)(a1:(List Int))(r:(List (List Int))×Int)(h:ix k a0 a1=some r):
 bZ (dW Tryz.prog) 12 [.rep ao a0,.rep Tl a1] [] (λ_:Unit=>(bL [.rep (.slice Tl) r.1,I r.2],[])):=by
 unfold ix at h
 replace h:=bo h
 refine bZ.of 43 Tryz.func12 rfl Tryz.ntmps12 rfl λS w0=>?_
 refine sr ?_
 refine bx λb1=>?_
 refine cq ?_
 refine cq ?_
 refine nt ?_
 refine sr ?_
 refine lo hJ ?_
 refine mq ?_
 obtain⟨r2,X,h⟩:=aa h
 have j:=lW k a0 a1 ([]:(List Int)) ([]:(List Int)) ([]:(List Int)) r2 X
 rcases hr:r2.1 with _ |q3
 .
  rw [hr] at h j;replace h:=uR h;refine aI (Δ:=[]) (F:=_) (λ_ _ _=>ag rfl _) rfl rfl (bX (N:=[(.tmp 13,.rep ao a0),(.tmp 14,.rep Tl a1),(.const (.slice none 0 0),.eq (.slice none 0 0)),(.const (.slice none 0 0),.eq (.slice none 0 0)),(.const (.slice none 0 0),.eq (.slice none 0 0))]) (aV [.tmp 13,.tmp 14,.const (.slice none 0 0),.const (.slice none 0 0),.const (.slice none 0 0)] rfl rfl zT rfl j) λ_ _ _ hn=>⟨hn.1,hn.2.1,(aG (t:=Tl) (x:=([]:(List Int))) .nil rfl rfl hn.2.2.1),(aG (t:=Tl) (x:=([]:(List Int))) .nil rfl rfl hn.2.2.2.1),(aG (t:=Tl) (x:=([]:(List Int))) .nil rfl rfl hn.2.2.2.2.1),trivial⟩) ⟨rfl,rfl,rfl,rfl,rfl,trivial⟩ λ_=>?_;refine mq ?_;refine xr ?_;refine xr ?_;refine xr ?_;refine aq ?_;refine aq ?_;refine aq (nt (ak (sr ?_)));refine mq ?_;refine jb (dZ rfl) ?_;refine nt (cn h (λh=>?_) (λh=>?_))
  .refine sr (mq ?_);refine cq ?_;refine aq (nt (rx ?_));refine bY (dV (t:=(.slice Tl)) (x:=([]:(List (List Int)))) 4 rfl .nil rfl rfl) ?_;cases h;exact rb
  .cases h
 .
  rw [hr] at h j;replace h:=uQ h;refine aI (Δ:=[]) (F:=_) (λ_ _ _=>ag rfl _) rfl rfl (bX (N:=[(.tmp 13,.rep ao a0),(.tmp 14,.rep Tl a1),(.const (.slice none 0 0),.eq (.slice none 0 0)),(.const (.slice none 0 0),.eq (.slice none 0 0)),(.const (.slice none 0 0),.eq (.slice none 0 0))]) (aV [.tmp 13,.tmp 14,.const (.slice none 0 0),.const (.slice none 0 0),.const (.slice none 0 0)] rfl rfl zT rfl j) λ_ _ _ hn=>⟨hn.1,hn.2.1,(aG (t:=Tl) (x:=([]:(List Int))) .nil rfl rfl hn.2.2.1),(aG (t:=Tl) (x:=([]:(List Int))) .nil rfl rfl hn.2.2.2.1),(aG (t:=Tl) (x:=([]:(List Int))) .nil rfl rfl hn.2.2.2.2.1),trivial⟩) ⟨rfl,rfl,rfl,rfl,rfl,trivial⟩ λz4=>?_;refine mq ?_;refine xr ?_;refine xr ?_;refine xr ?_;refine aq ?_;refine aq ?_;refine aq (nt (ak (sr ?_)));refine mq ?_;refine jb (dZ rfl) ?_;refine nt (cn h (λh=>?_) (λh=>?_))
  .refine sr (mq ?_);refine cq ?_;refine aq (nt (rx ?_));refine bY (dV (t:=(.slice Tl)) (x:=([]:(List (List Int)))) 4 rfl .nil rfl rfl) ?_;cases h;exact rb
  .refine sk (sr (cq (nt (sr ?_))));iterate 2 refine mq ?_
   obtain⟨r5,U,h⟩:=aa h;refine fr 1 ?_;refine fr 1 ?_;refine aI (Δ:=[_,_]) (F:=_) (λ_ _ _=>ag rfl _) rfl rfl (aV [.tmp 22,.tmp 23] rfl rfl BM rfl (ni k q3 z4.1 z4.2 r2.2.1 r5 U)) ⟨rfl,rfl,trivial⟩ λ_=>?_;refine aX rfl rfl rfl (bg rfl FG IE) trivial λb6=>?_;refine aM rfl rfl (aL rfl Gq rfl rfl rfl) ⟨rfl,rfl,trivial⟩ ?_;refine eB (jr (t:=(.arr 7 Tr)) (x:=r5) [10] .rep ⟨rfl,trivial⟩) ?_;refine nt (aD (Z:=Value) (α:=(List (List Int))) (λz8 x7=>[(9,.eq z8)]) (λz8 x7=>[.sl z8 22 Tl x7,.inv z4.2 (bR k q3)]) h (λK h=>?_) (λz8 x7 h=>?_))
   .refine sr (fl eh ?_);refine fr 2 ?_;refine lo kD ?_;refine ol vl ?_;obtain⟨x9,Q,h⟩:=aa h;refine jb (bh rfl Q) ?_;refine eP rfl ?_;refine nt (aj (iL (SE.nil 22 Tl) ?_));refine aF (λe c=>[(2,Pt b1),(9,.eq e),(10,.at (.arr 7 Tr) r5),(28,I x9),(29,I c.2)]) (λe c=>[.obj b1 26 (.rep ao a0),.sl e 22 Tl c.1,.inv z4.2 (bR k q3)]) (ew k a0 r5 x9) k (.slice none 0 0) (([]:(List (List Int))),0) (λ_=>rfl) h (SE.fin [1,0,3] ⟨rfl,rfl,rfl,rfl,rfl,trivial⟩ rfl) (λn e c h=>?_);unfold ew at h;refine sr (jb (bK rfl) ?_);refine nt (ak (ci h (λh=>?_) (λh=>?_)))
    .refine sk (ak (aj (sr (mq ?_))));refine aq (nt ?_);refine c9 ?_;refine dm ?_;refine dm ?_;obtain⟨M,y,h⟩:=aa h;refine db (cu (t:=Tr) rfl IM iP y) ?_;refine da (aH rfl gp) ?_;refine ea 0 (av rfl cM pr rfl) ?_;obtain⟨gw,l,h⟩:=aa h;refine db (vv (t:=Ti) rfl AM cM (am l).1 (am l).2) ?_;obtain⟨s,E,h⟩:=aa h;refine da (DO (aA [.tmp 37] rfl rfl TP rfl (rO k (List.take (Int.toNat a0.1) M) s E))) ?_;refine da (bb (t:=Tl) [(.tmp 38,_)] [s] rfl rfl nE (.cons rfl .rep .nil) rfl rfl) ?_;refine df eO ?_;obtain⟨Y,D,h⟩:=aa h;refine fr 1 ?_;refine er rfl rfl rfl (cI rfl rfl nE (am D)) ⟨rfl,rfl,trivial⟩ λO=>?_;refine aq (aC (aN (tn (ab ?_))));obtain⟨J,u,h⟩:=aa h;refine jb (bh rfl u) ?_;refine mq (nl ?_);exact jz (O,(c.1++[s],J)) h [1,0,2]
    .refine xa ?_;exact jz (e,c.1) h [1,2]
   .refine sr (mq ?_);refine aq ?_;refine cq (nt (ay ?_));refine bY (jt [4,9,42] ⟨rfl,rfl,rfl,trivial⟩) ?_;cases h;exact rb
def iI(k:Nat)(a0:ae)(a1:(List Int))(a2:(List Int))(a3:(List Int)):Option ((Option ae)×(List Int)×Int):=
 (jN k a0 ([]:(List Int)) a1 a2 a3).bind λr2=>
 f5 r2.1 (if¬(r2.2.2=0) then(some (none,([]:(List Int)),r2.2.2)) else(none)) (λq3=>if¬(r2.2.2=0) then(some (none,([]:(List Int)),r2.2.2)) else((eE k q3 0).bind λr5=>
 if(r5.length:Int)=0 then(some (none,([]:(List Int)),9)) else(some (some q3,r5,0))))
theorem kG(k:Nat)(a0:ae)(a1:(List Int))(a2:(List Int))(a3:(List Int))(r:(Option ae)×(List Int)×Int)(h:iI k a0 a1 a2 a3=some r):
 bZ (dW Tryz.prog) 42 [.rep ao a0,.rep Tl a1,.rep Tl a2,.rep Tl a3] [] (λz:Nat×Nat=>(bL [J6 r.1 z.1,.rep (.slice (.int .u8)) r.2.1,I r.2.2],J5 r.1 λq=>qy q z.1 z.2 k)):=by
 unfold iI at h
 replace h:=bo h
 refine bZ.of 34 Tryz.func42 rfl Tryz.ntmps42 rfl λS w0=>?_
 refine sr ?_
 refine bx λb1=>?_
 refine cq ?_
 refine cq ?_
 refine cq ?_
 refine nt ?_
 refine sr ?_
 refine lo hJ ?_
 iterate 3 refine mq ?_
 obtain⟨r2,j,h⟩:=aa h
 have c:=lW k a0 ([]:(List Int)) a1 a2 a3 r2 j
 rcases hr:r2.1 with _ |q3
 .
  rw [hr] at h c;replace h:=uR h;refine aI (Δ:=[]) (F:=_) (λ_ _ _=>ag rfl _) rfl rfl (bX (N:=[(.tmp 16,.rep ao a0),(.const (.slice none 0 0),.eq (.slice none 0 0)),(.tmp 17,.rep Tl a1),(.tmp 18,.rep Tl a2),(.tmp 19,.rep Tl a3)]) (aV [.tmp 16,.const (.slice none 0 0),.tmp 17,.tmp 18,.tmp 19] rfl rfl zT rfl c) λ_ _ _ hn=>⟨hn.1,(aG (t:=Tl) (x:=([]:(List Int))) .nil rfl rfl hn.2.1),hn.2.2.1,hn.2.2.2.1,hn.2.2.2.2.1,trivial⟩) ⟨rfl,rfl,rfl,rfl,rfl,trivial⟩ λ_=>?_;refine mq ?_;refine xr ?_;refine xr ?_;refine xr ?_;refine aq ?_;refine aq ?_;refine aq (nt (ak (sr ?_)));refine mq ?_;refine jb (dZ rfl) ?_;refine nt (cn h (λh=>?_) (λh=>?_))
  .refine sr (mq ?_);refine cq ?_;refine cq ?_;refine aq (nt (rx ?_));refine bY (dV (t:=(.slice (.int .u8))) (x:=([]:(List Int))) 9 rfl .nil rfl rfl) ?_;cases h;exact aR (0,0) [.eq (.pointer none),_,_] 0 ⟨rfl,rfl,rfl,trivial⟩ rfl
  .cases h
 .
  rw [hr] at h c;replace h:=uQ h;refine aI (Δ:=[]) (F:=_) (λ_ _ _=>ag rfl _) rfl rfl (bX (N:=[(.tmp 16,.rep ao a0),(.const (.slice none 0 0),.eq (.slice none 0 0)),(.tmp 17,.rep Tl a1),(.tmp 18,.rep Tl a2),(.tmp 19,.rep Tl a3)]) (aV [.tmp 16,.const (.slice none 0 0),.tmp 17,.tmp 18,.tmp 19] rfl rfl zT rfl c) λ_ _ _ hn=>⟨hn.1,(aG (t:=Tl) (x:=([]:(List Int))) .nil rfl rfl hn.2.1),hn.2.2.1,hn.2.2.2.1,hn.2.2.2.2.1,trivial⟩) ⟨rfl,rfl,rfl,rfl,rfl,trivial⟩ λz4=>?_;refine mq ?_;refine xr ?_;refine xr ?_;refine xr ?_;refine aq ?_;refine aq ?_;refine aq (nt (ak (sr ?_)));refine mq ?_;refine jb (dZ rfl) ?_;refine nt (cn h (λh=>?_) (λh=>?_))
  .refine sr (mq ?_);refine cq ?_;refine cq ?_;refine aq (nt (rx ?_));refine bY (dV (t:=(.slice (.int .u8))) (x:=([]:(List Int))) 9 rfl .nil rfl rfl) ?_;cases h;exact aR (0,0) [.eq (.pointer none),_,_] 0 ⟨rfl,rfl,rfl,trivial⟩ rfl
  .refine sk (sr (mq ?_));obtain⟨r5,e,h⟩:=aa h;refine fr 1 ?_;refine fr 1 ?_;refine aI (Δ:=[_,_]) (F:=_) (λ_ _ _=>ag rfl _) rfl rfl (aV [.tmp 27,.const (.int .u8 (0))] rfl rfl Q3 rfl (kz k q3 z4.1 z4.2 0 r5 e)) ⟨rfl,rfl,trivial⟩ λ_=>?_;refine aq (nt (ak (sr ?_)));refine mq ?_;refine ol yq ?_;refine jb (fH rfl) ?_;refine nt (ci h (λh=>?_) (λh=>?_))
   .refine sr (cq ?_);refine cq ?_;refine cq (nt (rx ?_));refine bY (dV (t:=(.slice (.int .u8))) (x:=([]:(List Int))) 9 rfl .nil rfl rfl) ?_;cases h;exact aR (0,0) [.eq (.pointer none),_,_] 0 ⟨rfl,rfl,rfl,trivial⟩ rfl
   .refine sk (sr ?_);iterate 2 refine mq ?_
    refine aq ?_;refine aq ?_;refine cq (nt (ay ?_));cases h;exact aR (z4.1,z4.2) [.eq (.pointer (some ⟨z4.1,0,none⟩)),_,_] 2 ⟨rfl,rfl,rfl,trivial⟩ rfl
def fX(k:Nat)(a1:Int)(r2:(Option ae)×(List Int)×Int)(q3:ae)(y7:(List Int)×Int):Nat->(Int×Int)->Option Int
 |0,_=>none
 |n+1,c=>
  if c.2 < (r2.2.1.length:Int) then((((aJ r2.2.1 c.2).bind λr=>
  (kw k q3 r).bind λu=>
  (aJ u a1).bind λl=>
  (aJ l y7.2).bind λj=>
  if 0≤j then((ck (c.1+1)).bind λh=>
  some h) else(some c.1)):Option (Int)).bind λs=>
  (ck (c.2+1)).bind λe=>
  fX k a1 r2 q3 y7 n (s,e)) else(some c.1)
def fY(k:Nat)(a0:ae)(a1:Int)(r2:(Option ae)×(List Int)×Int)(q3:ae):Nat->((List Int)×Int)->Option (List Int)
 |0,_=>none
 |n+1,y7=>
  if y7.2 < a0.1 then(((((fX k a1 r2 q3 y7 k (0,0)):Option (Int)).bind λh=>
  (iH k h (r2.2.1.length:Int)).bind λc=>
  (cN (bP (length y7.1+length [c]))).bind λ_=>
  some (y7.1++[c])):Option ((List Int))).bind λx9=>
  (ck (y7.2+1)).bind λe=>
  fY k a0 a1 r2 q3 n (x9,e)) else(some y7.1)
def mF(k:Nat)(a0:ae)(a1:Int):Option ((List Int)×Int):=
 (iI k a0 ([]:(List Int)) ([]:(List Int)) [a1]).bind λr2=>
 f5 r2.1 (if¬(r2.2.2=0) then(some (([]:(List Int)),r2.2.2)) else(none)) (λq3=>if¬(r2.2.2=0) then(some (([]:(List Int)),r2.2.2)) else(((fY k a0 a1 r2 q3 k (([]:(List Int)),0)):Option ((List Int))).bind λx5=>
 some (x5,0)))
theorem xH(k:Nat)(a0:ae)(a1:Int)(r:(List Int)×Int)(h:mF k a0 a1=some r):
 bZ (dW Tryz.prog) 14 [.rep ao a0,I a1] [] (λ_:Unit=>(bL [.rep Tl r.1,I r.2],[])):=by
 unfold mF at h
 replace h:=bo h
 refine bZ.of 56 Tryz.func14 rfl Tryz.ntmps14 rfl λS w0=>?_
 refine sr ?_
 refine bx λb1=>?_
 refine cq ?_
 refine cq ?_
 refine nt ?_
 refine sr ?_
 refine lo hJ ?_
 refine mq ?_
 refine ja (bb (t:=Ti) [(.tmp 16,_)] [a1] rfl rfl dT (.cons rfl .int .nil) rfl rfl) ?_
 obtain⟨r2,UQ,h⟩:=aa h
 have s:=kG k a0 ([]:(List Int)) ([]:(List Int)) [a1] r2 UQ
 rcases hr:r2.1 with _ |q3
 .
  rw [hr] at h s;replace h:=uR h;refine aI (Δ:=[]) (F:=_) (λ_ _ _=>ag rfl _) rfl rfl (bX (N:=[(.tmp 15,.rep ao a0),(.const (.slice none 0 0),.eq (.slice none 0 0)),(.const (.slice none 0 0),.eq (.slice none 0 0)),(.tmp 17,.rep Tl [a1])]) (aV [.tmp 15,.const (.slice none 0 0),.const (.slice none 0 0),.tmp 17] rfl rfl zS rfl s) λ_ _ _ hn=>⟨hn.1,(aG (t:=Tl) (x:=([]:(List Int))) .nil rfl rfl hn.2.1),(aG (t:=Tl) (x:=([]:(List Int))) .nil rfl rfl hn.2.2.1),hn.2.2.2.1,trivial⟩) ⟨rfl,rfl,rfl,rfl,trivial⟩ λ_=>?_;refine mq ?_;refine xr ?_;refine xr ?_;refine xr ?_;refine aq ?_;refine aq ?_;refine aq (nt (ak (sr ?_)));refine mq ?_;refine jb (dZ rfl) ?_;refine nt (cn h (λh=>?_) (λh=>?_))
  .refine sr (mq ?_);refine cq ?_;refine aq (nt (rx ?_));refine bY (dV (t:=Tl) (x:=([]:(List Int))) 4 rfl .nil rfl rfl) ?_;cases h;exact rb
  .cases h
 .
  rw [hr] at h s;replace h:=uQ h;refine aI (Δ:=[]) (F:=_) (λ_ _ _=>ag rfl _) rfl rfl (bX (N:=[(.tmp 15,.rep ao a0),(.const (.slice none 0 0),.eq (.slice none 0 0)),(.const (.slice none 0 0),.eq (.slice none 0 0)),(.tmp 17,.rep Tl [a1])]) (aV [.tmp 15,.const (.slice none 0 0),.const (.slice none 0 0),.tmp 17] rfl rfl zS rfl s) λ_ _ _ hn=>⟨hn.1,(aG (t:=Tl) (x:=([]:(List Int))) .nil rfl rfl hn.2.1),(aG (t:=Tl) (x:=([]:(List Int))) .nil rfl rfl hn.2.2.1),hn.2.2.2.1,trivial⟩) ⟨rfl,rfl,rfl,rfl,trivial⟩ λz4=>?_;refine mq ?_;refine xr ?_;refine xr ?_;refine xr ?_;refine aq ?_;refine aq ?_;refine aq (nt (ak (sr ?_)));refine mq ?_;refine jb (dZ rfl) ?_;refine nt (cn h (λh=>?_) (λh=>?_))
  .refine sr (mq ?_);refine cq ?_;refine aq (nt (rx ?_));refine bY (dV (t:=Tl) (x:=([]:(List Int))) 4 rfl .nil rfl rfl) ?_;cases h;exact rb
  .refine sk (sr (cq (nt ?_)));refine aD (Z:=Value) (α:=(List Int)) (λz6 x5=>[(9,.eq z6)]) (λz6 x5=>[.sl z6 3 Ti x5,.inv z4.2 (bR k q3)]) h (λK h=>?_) (λz6 x5 h=>?_)
   .refine sr (fl gp ?_);refine fr 2 ?_;refine lo cM ?_;refine eP rfl ?_;refine nt (aj (iL (SE.nil 3 Ti) ?_));refine aF (λz8 y7=>[(1,I a1),(6,.eq (.pointer (some ⟨z4.1,0,none⟩))),(7,.rep (.slice (.int .u8)) r2.2.1),(9,.eq z8),(26,I a0.1),(27,I y7.2)]) (λz8 y7=>[.obj z4.1 125 (aQ q3 z4.2),.sl z8 3 Ti y7.1,.inv z4.2 (bR k q3)]) (fY k a0 a1 r2 q3) k (.slice none 0 0) (([]:(List Int)),0) (λ_=>rfl) h (SE.fin [2,0,3] ⟨rfl,rfl,rfl,rfl,rfl,rfl,trivial⟩ rfl) (λn z8 y7 h=>?_);unfold fY at h;refine sr (jb (bK rfl) ?_);refine nt (ak (ci h (λh=>?_) (λh=>?_)))
    .refine sk (aD (Z:=Value) (α:=(List Int)) (λe x9=>[(1,I a1),(6,.eq (.pointer (some ⟨z4.1,0,none⟩))),(7,.rep (.slice (.int .u8)) r2.2.1),(9,.eq e),(26,I a0.1),(27,I y7.2)]) (λe x9=>[.obj z4.1 125 (aQ q3 z4.2),.sl e 3 Ti x9,.inv z4.2 (bR k q3)]) h (λK h=>?_) (λe x9 h=>?_))
     .refine aj (sr (mq ?_));refine aq (nt (sr ?_));refine cq (nt ?_);refine aD (Z:=Unit) (α:=Int) (λE l=>[(1,I a1),(6,.eq (.pointer (some ⟨z4.1,0,none⟩))),(7,.rep (.slice (.int .u8)) r2.2.1),(9,.eq z8),(11,I l),(26,I a0.1),(27,I y7.2)]) (λE l=>[.obj z4.1 125 (aQ q3 z4.2),.sl z8 3 Ti y7.1,.inv z4.2 (bR k q3)]) h (λK h=>?_) (λE l h=>?_)
      .refine sr (mq ?_);refine ol yq ?_;refine eP rfl ?_;refine nt (aj (aF (λD c=>[(1,I a1),(6,.eq (.pointer (some ⟨z4.1,0,none⟩))),(7,.rep (.slice (.int .u8)) r2.2.1),(9,.eq z8),(10,I y7.2),(11,I c.1),(26,I a0.1),(27,I y7.2),(30,.rep (.slice (.int .u8)) r2.2.1),(31,I (r2.2.1.length:Int)),(32,I c.2)]) (λD c=>[.obj z4.1 125 (aQ q3 z4.2),.sl z8 3 Ti y7.1,.inv z4.2 (bR k q3)]) (fX k a1 r2 q3 y7) k () (0,0) (λ_=>rfl) h (SE.fin [0,1,2] ⟨rfl,rfl,rfl,rfl,rfl,rfl,rfl,rfl,rfl,rfl,rfl,trivial⟩ rfl) (λn D c h=>?_)));unfold fX at h;refine sr (jb (bK rfl) ?_);refine nt (ak (ci h (λh=>?_) (λh=>?_)))
       .refine sk (aD (Z:=Unit) (α:=Int) (λy j=>[(1,I a1),(6,.eq (.pointer (some ⟨z4.1,0,none⟩))),(7,.rep (.slice (.int .u8)) r2.2.1),(9,.eq z8),(10,I y7.2),(11,I j),(26,I a0.1),(27,I y7.2),(30,.rep (.slice (.int .u8)) r2.2.1),(31,I (r2.2.1.length:Int)),(32,I c.2)]) (λy j=>[.obj z4.1 125 (aQ q3 z4.2),.sl z8 3 Ti y7.1,.inv z4.2 (bR k q3)]) h (λK h=>?_) (λy j h=>?_))
        .refine aj (sr ?_);obtain⟨UN,X,h⟩:=aa h;refine jb (bj (t:=(.int .u8)) rfl yq nP X) ?_;refine ja (au (t:=(.int .u8)) rfl nP rfl) ?_;refine aq (nt (sr ?_));iterate 2 refine mq ?_
         obtain⟨UP,mc,h⟩:=aa h;refine fr 2 ?_;refine fr 1 ?_;refine aI (Δ:=[_,_]) (F:=_) (λ_ _ _=>ag rfl _) rfl rfl (aV [.tmp 36,.tmp 37] rfl rfl BM rfl (ni k q3 z4.1 z4.2 UN UP mc)) ⟨rfl,rfl,trivial⟩ λ_=>?_;refine mq ?_;obtain⟨US,U,h⟩:=aa h;refine jb (jK (t:=Tr) rfl IM iP rfl rfl (qR) U) ?_;refine mq ?_;obtain⟨UR,Q,h⟩:=aa h;refine jb (jK (t:=Ti) rfl AM cM rfl rfl (λ_=>rfl) Q) ?_;refine jb (jh rfl) ?_;refine nt (ci h (λh=>?_) (λh=>?_))
         .refine ab (mq ?_);obtain⟨zz,O,h⟩:=aa h;refine jb (bh rfl O) ?_;refine aq (aC (bn ?_));exact jz ((),zz) h [0,2,1]
         .refine aY (bn ?_);exact jz ((),c.1) h [0,2,1]
        .refine ab ?_;obtain⟨qt,M,h⟩:=aa h;refine jb (bh rfl M) ?_;refine mq (nl ?_);exact jz ((),(j,qt)) h [0,1,2]
       .refine xa ?_;exact jz ((),c.1) h [0,1,2]
      .refine ab ?_;iterate 3 refine mq ?_
       refine ol yq ?_;obtain⟨u,gw,h⟩:=aa h;refine jb (aA [.tmp 48,.tmp 50] rfl rfl TO rfl (um k l (r2.2.1.length:Int) u gw)) ?_;refine ja (bb (t:=Ti) [(.tmp 51,_)] [u] rfl rfl dT (.cons rfl .int .nil) rfl rfl) ?_;obtain⟨UT,Y,h⟩:=aa h;refine fr 1 ?_;refine er rfl rfl rfl (cI rfl rfl dT (am Y)) ⟨rfl,rfl,trivial⟩ λUO=>?_;refine aq (aC (bn ?_));exact jz (UO,y7.1++[u]) h [1,0,2]
     .refine ab ?_;obtain⟨mw,J,h⟩:=aa h;refine jb (bh rfl J) ?_;refine mq (nl ?_);exact jz (e,(x9,mw)) h [0,1,2]
    .refine xa ?_;exact jz (z8,y7.1) h [1,2]
   .refine sr (mq ?_);refine aq ?_;refine cq (nt (ay ?_));refine bY (jt [4,9,55] ⟨rfl,rfl,rfl,trivial⟩) ?_;cases h;exact rb
def dK(k:Nat)(a2:Int)(r1:(List (List Int)))(x5:Int):Nat->Int->Option (Except Int Unit)
 |0,_=>none
 |n+1,y6=>
  if y6 < x5 then((aJ r1 y6).bind λx8=>
  (aJ x8 a2).bind λx9=>
  if 0≤x9 then(some (.error y6)) else((ck (y6+1)).bind λc=>
  dK k a2 r1 x5 n c)) else(some (.ok ()))
def eT(k:Nat)(a0:ae)(a1:Int)(a2:Int):Option Int:=
 (kw k a0 a1).bind λr1=>
 bE (α:=Unit) ((ck ((a0.2.2.2.2.1.length:Int)+1)).bind λx5=>
 dK k a2 r1 x5 k 0) (some) λ_=>
 some (-1:Int)
theorem lx(k:Nat)(a0:ae)(c z_a0:Nat)(a1:Int)(a2:Int)(r:Int)(h:eT k a0 a1 a2=some r):
 bZ (dW Tryz.prog) 44 [Pt c,.eq (.int .u8 a1),I a2] [.obj c 125 (aQ a0 z_a0),.inv z_a0 (bR k a0)] (λ_:Unit=>(bL [I r],[.obj c 125 (aQ a0 z_a0),.inv z_a0 (bR k a0)])):=by
 unfold eT at h
 replace h:=bo h
 refine bZ.of 30 Tryz.func44 rfl Tryz.ntmps44 rfl λS w0=>?_
 refine sr ?_
 refine cq ?_
 refine nt ?_
 refine sr ?_
 iterate 2 refine mq ?_
 obtain⟨r1,D,h⟩:=aa h
 have E:=ni k a0 c z_a0 a1 r1 D
 refine fr 1 ?_
 refine fr 1 ?_
 refine aI (Δ:=[_,_]) (F:=_) (λ_ _ _=>ag rfl _) rfl rfl (aV [.tmp 9,.tmp 10] rfl rfl BM rfl E) ⟨rfl,rfl,trivial⟩ λ_=>?_
 refine aX rfl rfl rfl (bg rfl FG IE) trivial λb2=>?_
 refine aM rfl rfl (aL rfl Gq rfl rfl rfl) ⟨rfl,rfl,trivial⟩ ?_
 refine eB (jr (t:=(.arr 7 Tr)) (x:=r1) [7] .rep ⟨rfl,trivial⟩) ?_
 refine nt ?_
 refine dx (Z:=Unit) (α:=Unit) (λz4 x3=>[]) (λz4 x3=>[.obj c 125 (aQ a0 z_a0),.inv z_a0 (bR k a0)]) (λe=>e=r) h (λe h=>Option.some.inj h) (λK hR h=>?_) (λz4 x3 h=>?_)
 .
  refine sr (mq ?_);refine ja (cO rfl) ?_;refine fl gY ?_;refine fl eh ?_;refine lo kD ?_;refine ol vl ?_;obtain⟨x5,y,h⟩:=aa h;refine jb (bh rfl y) ?_;refine eP rfl ?_;refine nt (aj (aF (λz7 y6=>[(2,I a2),(7,.at (.arr 7 Tr) r1),(18,I x5),(19,I y6)]) (λz7 y6=>[.obj c 125 (aQ a0 z_a0),.inv z_a0 (bR k a0)]) (dK k a2 r1 x5) k () 0 (λ_=>rfl) h (SE.fin [0,1] ⟨rfl,rfl,rfl,rfl,trivial⟩ rfl) (λn z7 y6 h=>?_)));unfold dK at h;refine sr (jb (bK rfl) ?_);refine nt (ak (ci h (λh=>?_) (λh=>?_)))
  .refine sk (ak (aj (sr (mq ?_))));refine aq (nt (sr ?_));iterate 2 refine mq ?_
   obtain⟨x8,u,h⟩:=aa h;refine jb (cu (t:=Tr) rfl IM iP u) ?_;obtain⟨x9,s,h⟩:=aa h;refine jb (cu (t:=Ti) rfl AM cM s) ?_;refine ja (au (t:=Ti) rfl cM rfl) ?_;refine jb (jh rfl) ?_;refine nt (ci h (λh=>?_) (λh=>?_))
   .refine sr (mq ?_);refine aq (nt (ay (br (aZ (aU ?_)))));obtain rfl:=hR _ h;exact aR () [_] 2 ⟨rfl,trivial⟩ rfl
   .refine aY (aN (tn (ab ?_)));obtain⟨l,j,h⟩:=aa h;refine jb (bh rfl j) ?_;refine mq (nl ?_);exact jz ((),l) h [0,1]
  .refine xa ?_;exact jz ((),()) h [0,1]
 .
  refine sr (cq (nt (ay ?_)));cases h;exact aR () [_] 2 ⟨rfl,trivial⟩ rfl
def fe(k:Nat)(a1:Int)(r3:(Option ae)×(List Int)×Int)(q4:ae):Nat->((List Int)×Int)->Option (List Int)
 |0,_=>none
 |n+1,y8=>
  if y8.2 < (r3.2.1.length:Int) then((((aJ r3.2.1 y8.2).bind λh=>
  (eT k q4 h a1).bind λc=>
  if 0≤c then((cN (bP (length y8.1+length [c]))).bind λ_=>
  some (y8.1++[c])) else(some y8.1)):Option ((List Int))).bind λj=>
  (ck (y8.2+1)).bind λe=>
  fe k a1 r3 q4 n (j,e)) else(some y8.1)
def kV(k:Nat)(a0:ae)(a1:Int):Option (fj×Int):=
 (iI k a0 [a1] ([]:(List Int)) ([]:(List Int))).bind λr3=>
 f5 r3.1 (if¬(r3.2.2=0) then(some ((0,0),r3.2.2)) else(none)) (λq4=>if¬(r3.2.2=0) then(some ((0,0),r3.2.2)) else(((fe k a1 r3 q4 k (([]:(List Int)),0)):Option ((List Int))).bind λx6=>
 if(x6.length:Int)=0 then(some ((0,0),11)) else((iD k x6).bind λe=>
 (jI k x6).bind λc=>
 some ((e,c),0))))
theorem qW(k:Nat)(a0:ae)(a1:Int)(r:fj×Int)(h:kV k a0 a1=some r):
 bZ (dW Tryz.prog) 15 [.rep ao a0,I a1] [] (λ_:Unit=>(bL [.rep bD r.1,I r.2],[])):=by
 unfold kV at h
 replace h:=bo h
 refine bZ.of 51 Tryz.func15 rfl Tryz.ntmps15 rfl λS w0=>?_
 refine sr ?_
 refine bx λb1=>?_
 refine aX rfl rfl rfl (bg rfl rL LQ) trivial λb2=>?_
 refine cq ?_
 refine nt ?_
 refine sr ?_
 refine fr 1 ?_
 refine lo hJ ?_
 refine mq ?_
 refine ja (bb (t:=Ti) [(.tmp 15,_)] [a1] rfl rfl dT (.cons rfl .int .nil) rfl rfl) ?_
 obtain⟨r3,Y,h⟩:=aa h
 have s:=kG k a0 [a1] ([]:(List Int)) ([]:(List Int)) r3 Y
 rcases hr:r3.1 with _ |q4
 .
  rw [hr] at h s;replace h:=uR h;refine aI (Δ:=[]) (F:=_) (λ_ _ _=>ag rfl _) rfl rfl (bX (N:=[(.tmp 14,.rep ao a0),(.tmp 16,.rep Tl [a1]),(.const (.slice none 0 0),.eq (.slice none 0 0)),(.const (.slice none 0 0),.eq (.slice none 0 0))]) (aV [.tmp 14,.tmp 16,.const (.slice none 0 0),.const (.slice none 0 0)] rfl rfl zS rfl s) λ_ _ _ hn=>⟨hn.1,hn.2.1,(aG (t:=Tl) (x:=([]:(List Int))) .nil rfl rfl hn.2.2.1),(aG (t:=Tl) (x:=([]:(List Int))) .nil rfl rfl hn.2.2.2.1),trivial⟩) ⟨rfl,rfl,rfl,rfl,trivial⟩ λ_=>?_;refine mq ?_;refine xr ?_;refine xr ?_;refine xr ?_;refine aq ?_;refine aq ?_;refine aq (nt (ak (sr ?_)));refine mq ?_;refine jb (dZ rfl) ?_;refine nt (cn h (λh=>?_) (λh=>?_))
  .refine sr (cf rfl (dq [] rfl xu rL rA (hP trivial) rfl) trivial ?_);refine mq ?_;refine fr 1 ?_;refine aM rfl rfl (aL rfl nQ trivial rfl rfl) ⟨rfl,rfl,trivial⟩ ?_;refine aq (nt (rx ?_));refine bY (iu (a:=.agg (.pair (I 0) (I 0))) (a':=.rep bD (0,0)) (jx (.agg (.pair .int .int)))) ?_;cases h;exact aR () [.rep bD (0,0),_] 0 ⟨⟨_,_,_,_,_,rfl,(.head _),nQ,(qR),rfl⟩,rfl,trivial⟩ rfl
  .cases h
 .
  rw [hr] at h s;replace h:=uQ h;refine aI (Δ:=[]) (F:=_) (λ_ _ _=>ag rfl _) rfl rfl (bX (N:=[(.tmp 14,.rep ao a0),(.tmp 16,.rep Tl [a1]),(.const (.slice none 0 0),.eq (.slice none 0 0)),(.const (.slice none 0 0),.eq (.slice none 0 0))]) (aV [.tmp 14,.tmp 16,.const (.slice none 0 0),.const (.slice none 0 0)] rfl rfl zS rfl s) λ_ _ _ hn=>⟨hn.1,hn.2.1,(aG (t:=Tl) (x:=([]:(List Int))) .nil rfl rfl hn.2.2.1),(aG (t:=Tl) (x:=([]:(List Int))) .nil rfl rfl hn.2.2.2.1),trivial⟩) ⟨rfl,rfl,rfl,rfl,trivial⟩ λz5=>?_;refine mq ?_;refine xr ?_;refine xr ?_;refine xr ?_;refine aq ?_;refine aq ?_;refine aq (nt (ak (sr ?_)));refine mq ?_;refine jb (dZ rfl) ?_;refine nt (cn h (λh=>?_) (λh=>?_))
  .refine sr (cf rfl (dq [] rfl xu rL rA (hP trivial) rfl) trivial ?_);refine mq ?_;refine fr 3 ?_;refine aM rfl rfl (aL rfl nQ trivial rfl rfl) ⟨rfl,rfl,trivial⟩ ?_;refine aq (nt (rx ?_));refine bY (iu (a:=.agg (.pair (I 0) (I 0))) (a':=.rep bD (0,0)) (jx (.agg (.pair .int .int)))) ?_;cases h;exact aR () [.rep bD (0,0),_] 0 ⟨⟨_,_,_,_,_,rfl,(.head _),nQ,(qR),rfl⟩,rfl,trivial⟩ rfl
  .refine sk (sr (cq (nt ?_)));refine aD (Z:=Value) (α:=(List Int)) (λz7 x6=>[(4,Pt b2),(9,.eq z7)]) (λz7 x6=>[.obj b2 39 (.agg (.pair (I 0) (I 0))),.sl z7 3 Ti x6,.inv z5.2 (bR k q4)]) h (λK h=>?_) (λz7 x6 h=>?_)
   .refine sr (mq ?_);refine ol yq ?_;refine eP rfl ?_;refine nt (aj (iL (SE.nil 3 Ti) ?_));refine aF (λz9 y8=>[(1,I a1),(4,Pt b2),(6,.eq (.pointer (some ⟨z5.1,0,none⟩))),(9,.eq z9),(25,.rep (.slice (.int .u8)) r3.2.1),(26,I (r3.2.1.length:Int)),(27,I y8.2)]) (λz9 y8=>[.obj b2 39 (.agg (.pair (I 0) (I 0))),.obj z5.1 125 (aQ q4 z5.2),.sl z9 3 Ti y8.1,.inv z5.2 (bR k q4)]) (fe k a1 r3 q4) k (.slice none 0 0) (([]:(List Int)),0) (λ_=>rfl) h (SE.fin [4,1,0,2] ⟨rfl,rfl,rfl,rfl,rfl,rfl,rfl,trivial⟩ rfl) (λn z9 y8 h=>?_);unfold fe at h;refine sr (jb (bK rfl) ?_);refine nt (ak (ci h (λh=>?_) (λh=>?_)))
    .refine sk (aD (Z:=Value) (α:=(List Int)) (λc e=>[(1,I a1),(4,Pt b2),(6,.eq (.pointer (some ⟨z5.1,0,none⟩))),(9,.eq c),(25,.rep (.slice (.int .u8)) r3.2.1),(26,I (r3.2.1.length:Int)),(27,I y8.2)]) (λc e=>[.obj b2 39 (.agg (.pair (I 0) (I 0))),.obj z5.1 125 (aQ q4 z5.2),.sl c 3 Ti e,.inv z5.2 (bR k q4)]) h (λK h=>?_) (λc e h=>?_))
     .refine aj (sr ?_);obtain⟨U,D,h⟩:=aa h;refine jb (bj (t:=(.int .u8)) rfl yq nP D) ?_;refine ja (au (t:=(.int .u8)) rfl nP rfl) ?_;refine aq (nt (sr ?_));iterate 3 refine mq ?_
      obtain⟨u,O,h⟩:=aa h;refine fr 3 ?_;refine fr 2 ?_;refine aI (Δ:=[_,_]) (F:=_) (λ_ _ _=>ag rfl _) rfl rfl (aV [.tmp 31,.tmp 32,.tmp 33] rfl rfl Q2 rfl (lx k q4 z5.1 z5.2 U a1 u O)) ⟨rfl,rfl,rfl,trivial⟩ λ_=>?_;refine aq (nt (sr ?_));refine mq ?_;refine jb (jh rfl) ?_;refine nt (ci h (λh=>?_) (λh=>?_))
      .refine ab ?_;iterate 2 refine mq ?_
       refine ja (bb (t:=Ti) [(.tmp 38,_)] [u] rfl rfl dT (.cons rfl .int .nil) rfl rfl) ?_;obtain⟨gw,E,h⟩:=aa h;refine fr 3 ?_;refine er rfl rfl rfl (cI rfl rfl dT (am E)) ⟨rfl,rfl,trivial⟩ λX=>?_;refine aq (aC (bn ?_));exact jz (X,y8.1++[u]) h [3,1,0,2]
      .refine aY (bn ?_);exact jz (z9,y8.1) h [2,0,3,1]
     .refine ab ?_;obtain⟨Q,y,h⟩:=aa h;refine jb (bh rfl y) ?_;refine mq (nl ?_);exact jz (c,(e,Q)) h [0,1,2,3]
    .refine xa ?_;exact jz (z9,y8.1) h [0,2,3]
   .refine ak (sr (mq ?_));refine fr 1 ?_;refine ka (iF rfl rfl iK) ?_;refine jb (fH rfl) ?_;refine nt (ci h (λh=>?_) (λh=>?_))
    .refine sr (cf rfl (dq [] rfl xu rL rA (hP trivial) rfl) trivial ?_);refine fr 1 ?_;refine aM rfl rfl (aL rfl nQ trivial rfl rfl) ⟨rfl,rfl,trivial⟩ ?_;refine cq (nt (rx ?_));refine bY (iu (a:=.agg (.pair (I 0) (I 0))) (a':=.rep bD (0,0)) (jx (.agg (.pair .int .int)))) ?_;cases h;exact aR () [.rep bD (0,0),_] 0 ⟨⟨_,_,_,_,_,rfl,(.head _),nQ,(qR),rfl⟩,rfl,trivial⟩ rfl
    .refine sk (sr (mq ?_));obtain⟨l,M,h⟩:=aa h;refine ka (lH (N:=[(.tmp 46,.eq z7)]) (aA [.tmp 46] rfl rfl Q1 rfl (nT k x6 l M)) (λ_ _ _ hv hn=>⟨(lend hn.1 hv),trivial⟩) (λ_=>⟨rfl,oy⟩)) ?_;refine mq ?_;obtain⟨j,J,h⟩:=aa h;refine ka (lH (N:=[(.tmp 48,.eq z7)]) (aA [.tmp 48] rfl rfl TN rfl (t4 k x6 j J)) (λ_ _ _ hv hn=>⟨(lend hn.1 hv),trivial⟩) (λ_=>⟨rfl,oy⟩)) ?_;refine jb (dq [(0,.tmp 47,_),(1,.tmp 49,_)] rfl xu rL rA (hP ⟨rfl,rfl,trivial⟩) rfl) ?_;refine fr 1 ?_;refine aM rfl rfl (aL rfl nQ trivial rfl rfl) ⟨rfl,rfl,trivial⟩ ?_;refine cq (nt (ay ?_));refine bY (iu (a:=.agg (.pair (I l) (I j))) (a':=.rep bD (l,j)) (jx (.agg (.pair .int .int)))) ?_;cases h;exact aR () [.rep bD (l,j),_] 0 ⟨⟨_,_,_,_,_,rfl,(.head _),nQ,(qR),rfl⟩,rfl,trivial⟩ rfl
def gx(k:Nat)(r2:(List (List Int)))(y6:Int×Int×(List (eQ×eQ))):Nat->Int->Option Int
 |0,_=>none
 |n+1,c=>
  ((if 0 < c then((ck (c - 1)).bind λl=>
  (aJ r2 l).bind λj=>
  (aJ j y6.1).bind λh=>
  some (decide (0≤h))) else(some false)):Option (Bool)).bind λr=>
  if r=true then((ck (c - 1)).bind λe=>
  gx k r2 y6 n e) else(some c)
def gy(k:Nat)(a0:ae)(r2:(List (List Int))):Nat->(Int×Int×(List (eQ×eQ)))->Option (List (fj×fj))
 |0,_=>none
 |n+1,y6=>
  bE (α:=Int×Int×(List (eQ×eQ))) (((gx k r2 y6 k y6.2.1):Option (Int)).bind λc=>
  if c=0 then((cN (yT (y6.1,y6.2.1))).bind λ_=>
  some (.error (Bq y6.2.2 (y6.1,y6.2.1) ((-1:Int),0)))) else((ck (c - 1)).bind λr=>
  (aJ r2 r).bind λl=>
  (ck (c - 1)).bind λj=>
  (dz k a0 l y6.1 j).bind λh=>
  (ck (c - 1)).bind λe=>
  (cN (yT (y6.1,y6.2.1))).bind λ_=>
  some (.ok (h,e,Bq y6.2.2 (y6.1,y6.2.1) (h,e))))) (some) λx8=>
  gy k a0 r2 n (x8.1,x8.2.1,x8.2.2)
def lz(k:Nat)(a0:ae)(a1:Int)(a2:fj):Option (List (fj×fj)):=
 (kw k a0 a1).bind λr2=>
 gy k a0 r2 k (a2.1,a2.2,([]:List (eQ×eQ)))
theorem qU(k:Nat)(a0:ae)(c z_a0:Nat)(a1:Int)(a2:fj)(r:(List (fj×fj)))(h:lz k a0 a1 a2=some r):
 bZ (dW Tryz.prog) 80 [Pt c,.eq (.int .u8 a1),.rep bD a2] [.obj c 125 (aQ a0 z_a0),.inv z_a0 (bR k a0)] (λz:Nat=>(bL [.eq (.map (some z))],[.inv z (td r),.obj c 125 (aQ a0 z_a0),.inv z_a0 (bR k a0)])):=by
 unfold lz at h
 replace h:=bo h
 refine bZ.of 56 Tryz.func80 rfl Tryz.ntmps80 rfl λS w0=>?_
 refine sr ?_
 refine bx λb1=>?_
 refine cq ?_
 refine nt ?_
 refine sr ?_
 iterate 2 refine mq ?_
 obtain⟨r2,Vb,h⟩:=aa h
 have Ve:=ni k a0 c z_a0 a1 r2 Vb
 refine fr 2 ?_
 refine fr 2 ?_
 refine aI (Δ:=[_,_]) (F:=_) (λ_ _ _=>ag rfl _) rfl rfl (aV [.tmp 12,.tmp 13] rfl rfl BM rfl Ve) ⟨rfl,rfl,trivial⟩ λ_=>?_
 refine aX rfl rfl rfl (bg rfl FG IE) trivial λb3=>?_
 refine aM rfl rfl (aL rfl Gq rfl rfl rfl) ⟨rfl,rfl,trivial⟩ ?_
 refine eB (jr (t:=(.arr 7 Tr)) (x:=r2) [7] .rep ⟨rfl,trivial⟩) ?_
 refine nt ?_
 refine sr ?_
 refine aX rfl rfl rfl (wj rfl) trivial λz4=>?_
 refine eB (sV (td []) JE) ?_
 refine aq ?_
 refine nt ?_
 refine sr ?_
 refine aX rfl rfl rfl (bg rfl s4 Am) trivial λb5=>?_
 refine nt ?_
 refine sr ?_
 refine fl ya ?_
 refine aM rfl rfl (aL rfl cM rfl rfl rfl) ⟨rfl,rfl,trivial⟩ ?_
 refine nt ?_
 refine aj ?_
 refine dX 4 rfl ?_
 refine iL (iu (a:=.rep bD a2) (a':=.agg (.pair (I a2.1) (I a2.2))) (AE.trans D9 (AE.agg (AE.trans AC (AE.pair AE.int AE.int))))) ?_
 refine aF (λz7 y6=>[(0,Pt c),(5,Pt b1),(7,.at (.arr 7 Tr) r2),(8,.eq (.map (some z4))),(9,Pt b5)]) (λz7 y6=>[.obj c 125 (aQ a0 z_a0),.obj b1 131 (.agg (.pair (I y6.1) (I y6.2.1))),.obj b5 131 (.agg (.pair (I (-1:Int)) (I 0))),.inv z_a0 (bR k a0),.inv z4 (td y6.2.2)]) (gy k a0 r2) k () (a2.1,a2.2,([]:List (eQ×eQ))) (λ_=>rfl) h (SE.fin [3,0,1,4,2] ⟨rfl,rfl,rfl,rfl,rfl,trivial⟩ rfl) (λn z7 y6 h=>?_)
 unfold gy at h
 refine I5 (Z:=Unit) (α:=Int×Int×(List (eQ×eQ))) (λz9 x8=>[(0,Pt c),(5,Pt b1),(7,.at (.arr 7 Tr) r2),(8,.eq (.map (some z4))),(9,Pt b5)]) (λz9 x8=>[.obj c 125 (aQ a0 z_a0),.obj b1 131 (.agg (.pair (I x8.1) (I x8.2.1))),.obj b5 131 (.agg (.pair (I (-1:Int)) (I 0))),.inv z_a0 (bR k a0),.inv z4 (td x8.2.2)]) (λe=>e=r) h (λe h=>Option.some.inj h) (λK hR h=>?_) (λz9 x8 h=>?_)
 .
  refine aj (sr (fl Lh ?_));refine fr 1 ?_;refine lo cM ?_;refine aq (nt ?_);refine aD (Z:=Unit) (α:=Int) (λO D=>[(0,Pt c),(5,Pt b1),(7,.at (.arr 7 Tr) r2),(8,.eq (.map (some z4))),(9,Pt b5),(10,I D)]) (λO D=>[.obj c 125 (aQ a0 z_a0),.obj b1 131 (.agg (.pair (I y6.1) (I y6.2.1))),.obj b5 131 (.agg (.pair (I (-1:Int)) (I 0))),.inv z_a0 (bR k a0),.inv z4 (td y6.2.2)]) h (λK h=>?_) (λO D h=>?_)
  .refine aj (aF (λM s=>[(0,Pt c),(5,Pt b1),(7,.at (.arr 7 Tr) r2),(8,.eq (.map (some z4))),(9,Pt b5),(10,I s)]) (λM s=>[.obj c 125 (aQ a0 z_a0),.obj b1 131 (.agg (.pair (I y6.1) (I y6.2.1))),.obj b5 131 (.agg (.pair (I (-1:Int)) (I 0))),.inv z_a0 (bR k a0),.inv z4 (td y6.2.2)]) (gx k r2 y6) k () y6.2.1 (λ_=>rfl) h (SE.fin [1,0,2,3,4] ⟨rfl,rfl,rfl,rfl,rfl,rfl,trivial⟩ rfl) (λn M s h=>?_));unfold gx at h;refine ak (aD (Z:=Unit) (α:=Bool) (λJ y=>[(0,Pt c),(5,Pt b1),(7,.at (.arr 7 Tr) r2),(8,.eq (.map (some z4))),(9,Pt b5),(10,I s),(30,.eq (.bool y))]) (λJ y=>[.obj c 125 (aQ a0 z_a0),.obj b1 131 (.agg (.pair (I y6.1) (I y6.2.1))),.obj b5 131 (.agg (.pair (I (-1:Int)) (I 0))),.inv z_a0 (bR k a0),.inv z4 (td y6.2.2)]) h (λK h=>?_) (λJ y h=>?_))
   .refine c9 ?_;refine dm ?_;refine db (lT rfl) ?_;refine yy rfl rfl rfl (bJ rfl) ⟨rfl,trivial⟩ (λhb=>?_) (λhb=>?_)
    .replace h:=eM (vJ hb) h;refine d5 rfl rfl rfl rfl rfl (bJ rfl) ⟨rfl,rfl,trivial⟩ ?_;obtain⟨Vm,UQ,h⟩:=aa h;refine d5 rfl rfl rfl rfl rfl (eN rfl UQ) ⟨rfl,rfl,rfl,trivial⟩ ?_;refine d5 rfl rfl rfl rfl rfl (aH rfl ya) ⟨rfl,rfl,trivial⟩ ?_;refine kQ 1 rfl rfl rfl rfl rfl rfl (av rfl cM pr rfl) ⟨rfl,rfl,trivial⟩ ?_;obtain⟨Vl,UP,h⟩:=aa h;refine d5 rfl rfl rfl rfl rfl (cu (t:=Tr) rfl IM iP UP) ⟨rfl,rfl,rfl,trivial⟩ ?_;refine df eO ?_;obtain⟨UX,UO,h⟩:=aa h;refine gb (cu (t:=Ti) rfl AM cM UO) ?_;refine ga (au (t:=Ti) rfl cM rfl) ?_;refine gb (jh rfl) ?_;refine pt (nl ?_);exact jz ((),decide (0≤UX)) h [0,1,2,3,4]
    .replace h:=cV (vK hb) h;iterate 5 refine dg ?_
     refine df eO ?_;iterate 3 refine gn ?_
     refine pf (nl ?_);exact jz ((),false) h [0,1,2,3,4]
   .refine cv h (λh=>?_) (λh=>?_)
    .refine sk (aj (ab (mq ?_)));obtain⟨UW,UN,h⟩:=aa h;refine jb (eN rfl UN) ?_;refine aq (aC (bn ?_));exact jz ((),UW) h [0,1,2,3,4]
    .refine xa ?_;exact jz ((),s) h [0,1,2,3,4]
  .refine ak (sr (mq ?_));refine jb (fH rfl) ?_;refine nt (ci h (λh=>?_) (λh=>?_))
   .refine sr (mq ?_);refine fr 1 ?_;refine lo jH ?_;refine fr 2 ?_;refine lo jH ?_;refine eB (dV (t:=bD) (x:=(y6.1,y6.2.1)) 36 rfl (.agg (.pair .int .int)) trivial rfl) ?_;obtain⟨VB,US,h⟩:=aa h;refine eB (dV (t:=bD) (x:=((-1:Int),0)) 37 rfl (.agg (.pair .int .int)) trivial rfl) ?_;refine fr 4 ?_;refine aM rfl rfl (qL (K:=lg) (V:=lg) (t:=(y6.1,y6.2.1)) (n:=((-1:Int),0)) (l:=y6.2.2) (λ_ _ _ h=>mT h) rfl Fa mr (λ_ _ _ h=>mT h) (qC (am US)) (qB _) qD) ⟨rfl,rfl,rfl,trivial⟩ ?_;refine nt (sr (mq ?_));refine aq (nt (rx (br (aZ ?_))));refine bY (SE.fin (Γ':=[(6,_)]) [0,3,4,1,2] ⟨rfl,trivial⟩ rfl) ?_;obtain rfl:=hR _ h;exact aR z4 [.eq (.map (some z4))] 3 ⟨rfl,trivial⟩ rfl
   .refine sk (ak (rH ?_));refine bT rfl rfl rfl (bJ rfl) ⟨rfl,trivial⟩ ?_;refine bT rfl rfl rfl (bJ rfl) ⟨rfl,trivial⟩ ?_;obtain⟨Vk,zz,h⟩:=aa h;refine bT rfl rfl rfl (eN rfl zz) ⟨rfl,rfl,trivial⟩ ?_;obtain⟨UV,qt,h⟩:=aa h;refine bT rfl rfl rfl (cu (t:=Tr) rfl IM iP qt) ⟨rfl,rfl,trivial⟩ ?_;refine bT rfl rfl rfl (au (t:=Tr) rfl iP rfl) ⟨rfl,trivial⟩ ?_;refine bT rfl rfl rfl (aH rfl ya) ⟨rfl,trivial⟩ ?_;refine hH 1 rfl rfl rfl rfl (av rfl cM pr rfl) ⟨rfl,trivial⟩ ?_;refine bT rfl rfl rfl (bJ rfl) ⟨rfl,trivial⟩ ?_;obtain⟨UU,mw,h⟩:=aa h;refine bT rfl rfl rfl (eN rfl mw) ⟨rfl,rfl,trivial⟩ ?_;obtain⟨j,UT,h⟩:=aa h;refine hH 0 rfl rfl rfl rfl (aA [.tmp 39,.tmp 43,.tmp 45,.tmp 47] rfl rfl Nk rfl (nG k a0 c z_a0 UV y6.1 UU j UT)) ⟨rfl,rfl,rfl,rfl,trivial⟩ ?_;refine bT rfl rfl rfl (bJ rfl) ⟨rfl,trivial⟩ ?_;obtain⟨u,mc,h⟩:=aa h;refine bT rfl rfl rfl (eN rfl mc) ⟨rfl,rfl,trivial⟩ ?_;refine bT rfl rfl rfl (dq [(0,.tmp 48,_),(1,.tmp 50,_)] rfl G0 s4 BU (hP ⟨rfl,rfl,trivial⟩) rfl) ⟨rfl,rfl,trivial⟩ ?_;refine MG (Oo 131 (.agg (.pair (I 0) (I 0)))) (λ_=>rfl) rfl rfl rfl (bg rfl s4 Am) trivial ?_;refine ve 14 [true,true,true,true,true,true,true,true,true,true,true,true,true,true] [] [] [] rfl (by kernel_rfl) (by kernel_rfl) (by kernel_rfl) eO (λvs hv hB=>?_);obtain⟨w0,Vz,rfl,Va⟩:=ax hv;obtain⟨w1,Vy,rfl,U8⟩:=ax Va;obtain⟨w2,Vx,rfl,U7⟩:=ax U8;obtain⟨w3,Vw,rfl,U6⟩:=ax U7;obtain⟨w4,Vv,rfl,U2⟩:=ax U6;obtain⟨w5,Vu,rfl,U1⟩:=ax U2;obtain⟨w6,Vt,rfl,U0⟩:=ax U1;obtain⟨w7,Vs,rfl,UZ⟩:=ax U0;obtain⟨w8,Vr,rfl,UY⟩:=ax UZ;obtain⟨w9,Vj,rfl,gw⟩:=ax UY;obtain⟨Vq,Vi,rfl,Y⟩:=ax gw;obtain⟨Vp,Vh,rfl,X⟩:=ax Y;obtain⟨Vo,Vg,rfl,U⟩:=ax X;obtain⟨Vn,Vf,rfl,Q⟩:=ax U;obtain rfl:=qY Q;obtain⟨E,rfl⟩:=On hB.2.2.2.2.2.2.2.2.2.2.2.2.2.1;refine⟨[0,1,2,3,4,5],[.obj c 125 (aQ a0 z_a0),.obj b1 131 (.agg (.pair (I y6.1) (I y6.2.1))),.obj b5 131 (.agg (.pair (I (-1:Int)) (I 0))),.inv z_a0 (bR k a0),.inv z4 (td y6.2.2),.obj E 131 (.agg (.pair (I 0) (I 0)))],by kernel_rfl,by decide,?_⟩;refine rF 5 rfl ?_;refine sW rfl rfl (aL rfl jH trivial rfl rfl) ⟨rfl,rfl,trivial⟩ (by kernel_rfl) ?_;refine yu ?_;refine bY (SE.fin (Γ':=[(0,Pt c),(5,Pt b1),(7,.at (.arr 7 Tr) r2),(8,.eq (.map (some z4))),(9,Pt b5),(11,Pt E)]) (Δ':=[.obj E 131 (.agg (.pair (I j) (I u))),.obj c 125 (aQ a0 z_a0),.obj b1 131 (.agg (.pair (I y6.1) (I y6.2.1))),.obj b5 131 (.agg (.pair (I (-1:Int)) (I 0))),.inv z_a0 (bR k a0),.inv z4 (td y6.2.2)]) [0,1,2,3,4,5] ⟨rfl,rfl,rfl,rfl,rfl,rfl,trivial⟩ rfl) ?_;refine tn (sr (mq ?_));refine fr 2 ?_;refine lo jH ?_;refine fr 1 ?_;refine lo jH ?_;refine eB (dV (t:=bD) (x:=(y6.1,y6.2.1)) 53 rfl (.agg (.pair .int .int)) trivial rfl) ?_;obtain⟨VA,UR,h⟩:=aa h;refine eB (dV (t:=bD) (x:=(j,u)) 54 rfl (.agg (.pair .int .int)) trivial rfl) ?_;refine fr 5 ?_;refine aM rfl rfl (qL (K:=lg) (V:=lg) (t:=(y6.1,y6.2.1)) (n:=(j,u)) (l:=y6.2.2) (λ_ _ _ h=>mT h) rfl Fa mr (λ_ _ _ h=>mT h) (qC (am UR)) (qB _) qD) ⟨rfl,rfl,rfl,trivial⟩ ?_
    refine nt (ab (fr 1 ?_));refine lo jH ?_;refine fr 2 ?_;refine aM rfl rfl (aL rfl jH trivial rfl rfl) ⟨rfl,rfl,trivial⟩ ?_;refine aC (bn ?_);exact jz ((),(j,u,Bq y6.2.2 (y6.1,y6.2.1) (j,u))) h [3,0,4,5,2]
 .
  refine an ?_;exact jz ((),(x8.1,x8.2.1,x8.2.2)) h [0,1,2,3,4]
def kJ(k:Nat)(r7:(List (fj×fj))):Nat->(Int×Int×(List Int))->Option (List Int)
 |0,_=>none
 |n+1,c=>
  (cN (yT (c.1,c.2.1))).bind λ_=>
  if¬((nf r7 (c.1,c.2.1) (0,0))=((-1:Int),0)) then((cN (yT (c.1,c.2.1))).bind λ_=>
  (cN (bP (length c.2.2+length [(nf r7 (c.1,c.2.1) (0,0)).1]))).bind λ_=>
  (cN (yT (c.1,c.2.1))).bind λ_=>
  kJ k r7 n ((nf r7 (c.1,c.2.1) (0,0)).1,(nf r7 (c.1,c.2.1) (0,0)).2,c.2.2++[(nf r7 (c.1,c.2.1) (0,0)).1])) else(some c.2.2)
def so(k:Nat)(a0:ae)(a1:(List Int))(a2:Int):Option ((List Int)×Int):=
 (jN k a0 a1 [a2] ([]:(List Int)) ([]:(List Int))).bind λr2=>
 f5 r2.1 (if¬(r2.2.2=0) then(some (([]:(List Int)),r2.2.2)) else(none)) (λq3=>if¬(r2.2.2=0) then(some (([]:(List Int)),r2.2.2)) else((eT k q3 r2.2.1 a2).bind λr5=>
 if r5 < 0 then(some (([]:(List Int)),11)) else((lz k q3 r2.2.1 (a2,r5)).bind λr7=>
 ((kJ k r7 k (a2,r5,[a2])):Option ((List Int))).bind λc=>
 (j8 k c).bind λe=>
 some (e,0))))
theorem xJ(k:Nat)(a0:ae)(a1:(List Int))(a2:Int)(r:(List Int)×Int)(h:so k a0 a1 a2=some r):
 bZ (dW Tryz.prog) 48 [.rep ao a0,.rep Tl a1,I a2] [] (λ_:Unit=>(bL [.rep Tl r.1,I r.2],[])):=by
 unfold so at h
 replace h:=bo h
 refine bZ.of 64 Tryz.func48 rfl Tryz.ntmps48 rfl λS w0=>?_
 refine sr ?_
 refine bx λb1=>?_
 refine cq ?_
 refine cq ?_
 refine nt ?_
 refine sr ?_
 refine lo hJ ?_
 iterate 2 refine mq ?_
 refine ja (bb (t:=Ti) [(.tmp 19,_)] [a2] rfl rfl dT (.cons rfl .int .nil) rfl rfl) ?_
 obtain⟨r2,Y,h⟩:=aa h
 have u:=lW k a0 a1 [a2] ([]:(List Int)) ([]:(List Int)) r2 Y
 rcases hr:r2.1 with _ |q3
 .
  rw [hr] at h u;replace h:=uR h;refine aI (Δ:=[]) (F:=_) (λ_ _ _=>ag rfl _) rfl rfl (bX (N:=[(.tmp 17,.rep ao a0),(.tmp 18,.rep Tl a1),(.tmp 20,.rep Tl [a2]),(.const (.slice none 0 0),.eq (.slice none 0 0)),(.const (.slice none 0 0),.eq (.slice none 0 0))]) (aV [.tmp 17,.tmp 18,.tmp 20,.const (.slice none 0 0),.const (.slice none 0 0)] rfl rfl zT rfl u) λ_ _ _ hn=>⟨hn.1,hn.2.1,hn.2.2.1,(aG (t:=Tl) (x:=([]:(List Int))) .nil rfl rfl hn.2.2.2.1),(aG (t:=Tl) (x:=([]:(List Int))) .nil rfl rfl hn.2.2.2.2.1),trivial⟩) ⟨rfl,rfl,rfl,rfl,rfl,trivial⟩ λ_=>?_;refine mq ?_;refine xr ?_;refine xr ?_;refine xr ?_;refine aq ?_;refine aq ?_;refine aq (nt (ak (sr ?_)));refine mq ?_;refine jb (dZ rfl) ?_;refine nt (cn h (λh=>?_) (λh=>?_))
  .refine sr (mq ?_);refine cq ?_;refine aq (nt (rx ?_));refine bY (dV (t:=Tl) (x:=([]:(List Int))) 6 rfl .nil rfl rfl) ?_;cases h;exact rb
  .cases h
 .
  rw [hr] at h u;replace h:=uQ h;refine aI (Δ:=[]) (F:=_) (λ_ _ _=>ag rfl _) rfl rfl (bX (N:=[(.tmp 17,.rep ao a0),(.tmp 18,.rep Tl a1),(.tmp 20,.rep Tl [a2]),(.const (.slice none 0 0),.eq (.slice none 0 0)),(.const (.slice none 0 0),.eq (.slice none 0 0))]) (aV [.tmp 17,.tmp 18,.tmp 20,.const (.slice none 0 0),.const (.slice none 0 0)] rfl rfl zT rfl u) λ_ _ _ hn=>⟨hn.1,hn.2.1,hn.2.2.1,(aG (t:=Tl) (x:=([]:(List Int))) .nil rfl rfl hn.2.2.2.1),(aG (t:=Tl) (x:=([]:(List Int))) .nil rfl rfl hn.2.2.2.2.1),trivial⟩) ⟨rfl,rfl,rfl,rfl,rfl,trivial⟩ λz4=>?_;refine mq ?_;refine xr ?_;refine xr ?_;refine xr ?_;refine aq ?_;refine aq ?_;refine aq (nt (ak (sr ?_)));refine mq ?_;refine jb (dZ rfl) ?_;refine nt (cn h (λh=>?_) (λh=>?_))
  .refine sr (mq ?_);refine cq ?_;refine aq (nt (rx ?_));refine bY (dV (t:=Tl) (x:=([]:(List Int))) 6 rfl .nil rfl rfl) ?_;cases h;exact rb
  .refine sk (sr ?_);iterate 3 refine mq ?_
   obtain⟨r5,X,h⟩:=aa h;refine fr 1 ?_;refine fr 1 ?_;refine aI (Δ:=[_,_]) (F:=_) (λ_ _ _=>ag rfl _) rfl rfl (aV [.tmp 28,.tmp 29,.tmp 30] rfl rfl Q2 rfl (lx k q3 z4.1 z4.2 r2.2.1 a2 r5 X)) ⟨rfl,rfl,rfl,trivial⟩ λ_=>?_;refine aq (nt (ak (sr ?_)));refine mq ?_;refine jb (bK rfl) ?_;refine nt (ci h (λh=>?_) (λh=>?_))
   .refine sr (cq ?_);refine cq (nt (rx ?_));refine bY (dV (t:=Tl) (x:=([]:(List Int))) 6 rfl .nil rfl rfl) ?_;cases h;exact rb
   .refine sk (sr ?_);iterate 2 refine mq ?_
    refine jb (dq [(0,.tmp 34,_),(1,.tmp 35,_)] rfl G0 s4 BU (hP ⟨rfl,rfl,trivial⟩) rfl) ?_;refine aX rfl rfl rfl (bg rfl s4 Am) trivial λb6=>?_;refine aM rfl rfl (aL rfl jH trivial rfl rfl) ⟨rfl,rfl,trivial⟩ ?_;refine nt (sr ?_);iterate 2 refine mq ?_
    refine lo jH ?_;obtain⟨r7,U,h⟩:=aa h;refine fr 2 ?_;refine fr 2 ?_;refine aI (Δ:=[_,_]) (F:=_) (λ_ _ _=>ag rfl _) rfl rfl (bX (N:=[(.tmp 37,.eq (.pointer (some ⟨z4.1,0,none⟩))),(.tmp 38,.eq (.int .u8 r2.2.1)),(.tmp 39,.agg (.pair (I a2) (I r5)))]) (aV [.tmp 37,.tmp 38,.tmp 39] rfl rfl Tz rfl (qU k q3 z4.1 z4.2 r2.2.1 (a2,r5) r7 U)) λ_ _ _ hn=>⟨hn.1,hn.2.1,(aG (t:=bD) (x:=(a2,r5)) (.agg (.pair .int .int)) trivial rfl hn.2.2.1),trivial⟩) ⟨rfl,rfl,rfl,trivial⟩ λz8=>?_;refine aq (nt (sr ?_));refine mq ?_;refine aX rfl rfl rfl (mV (t:=Ti) [(.tmp 41,_)] [a2] rfl rfl dT (.cons rfl .int .nil) rfl rfl) ⟨rfl,trivial⟩ λv9=>?_;refine aq (nt ?_);refine aD (Z:=Value) (α:=(List Int)) (λj s=>[(13,.eq (.map (some z8))),(14,.eq j)]) (λj s=>[.sl j 3 Ti s,.inv z4.2 (bR k q3),.inv z8 (td r7)]) h (λK h=>?_) (λj s h=>?_)
    .refine sr (ja (dq [(0,.const (.int .i64 (-1)),_)] rfl G0 s4 BU (hP ⟨rfl,trivial⟩) rfl) ?_);refine aX rfl rfl rfl (bg rfl s4 Am) trivial λmc=>?_;refine aM rfl rfl (aL rfl jH trivial rfl rfl) ⟨rfl,rfl,trivial⟩ ?_;refine nt (aj (aF (λe c=>[(12,Pt b6),(13,.eq (.map (some z8))),(14,.eq e.1),(15,.eq (.pointer (some ⟨e.2,0,none⟩)))]) (λe c=>[.obj b6 131 (.agg (.pair (I c.1) (I c.2.1))),.sl e.1 3 Ti c.2.2,.obj e.2 131 (.agg (.pair (I (-1:Int)) (I 0))),.inv z4.2 (bR k q3),.inv z8 (td r7)]) (kJ k r7) k (v9,mc) (a2,r5,[a2]) (λ_=>rfl) h (SE.fin [5,1,0,4,2] ⟨rfl,rfl,rfl,rfl,trivial⟩ rfl) (λn e c h=>?_)));unfold kJ at h;refine ak (ak (c9 ?_));refine dm ?_;refine ea 0 (av rfl jH (qR) rfl) ?_;obtain⟨zz,J,h⟩:=aa h;refine eb 4 (bX (N:=[(.tmp 44,.eq (.map (some z8))),(.tmp 45,.agg (.pair (I c.1) (I c.2.1)))]) (rW (K:=lg) (V:=lg) (t:=(c.1,c.2.1)) (l:=r7) (λn=>.rep bD n) tU rfl Fa (0,0) tR mr (λ_ _ _ h=>mT h) (qC (am J)) (qB _) qD) λ_ _ _ hn=>⟨hn.1,(aG (t:=bD) (x:=(c.1,c.2.1)) (.agg (.pair .int .int)) trivial rfl hn.2.1),trivial⟩) ?_;refine ea 2 (av rfl jH (qR) rfl) ?_;refine df eO ?_;refine eB (dV (t:=bD) (x:=((-1:Int),0)) 47 rfl (.agg (.pair .int .int)) trivial rfl) ?_;refine jb (xA rfl QV rfl) ?_;refine nt (cn h (λh=>?_) (λh=>?_))
     .refine sk (ak (aj (ab ?_)));iterate 2 refine mq ?_
      refine lo jH ?_;refine eB (dV (t:=bD) (x:=(c.1,c.2.1)) 54 rfl (.agg (.pair .int .int)) trivial rfl) ?_;obtain⟨u16,E,h⟩:=aa h;refine fr 4 ?_;refine kb (bX (N:=[(.tmp 53,.eq (.map (some z8))),(.tmp 54,.rep bD (c.1,c.2.1))]) (rW (K:=lg) (V:=lg) (t:=(c.1,c.2.1)) (l:=r7) (λn=>.rep bD n) tU rfl Fa (0,0) tR mr (λ_ _ _ h=>mT h) (qC (am E)) (qB _) qD) λ_ _ _ hn=>⟨hn.1,hn.2.1,trivial⟩) ?_;refine ja (Kr rfl Uc rfl cM (λ_=>rfl) rfl rfl rfl) ?_;refine ja (bb (t:=Ti) [(.tmp 56,_)] [(nf r7 (c.1,c.2.1) (0,0)).1] rfl rfl dT (.cons rfl .int .nil) rfl rfl) ?_;obtain⟨qt,D,h⟩:=aa h;refine fr 2 ?_;refine er rfl rfl rfl (cI rfl rfl dT (am D)) ⟨rfl,rfl,trivial⟩ λO=>?_;refine aq (aC (aN (tn (ak (sr ?_)))));refine fr 3 ?_;refine lo jH ?_;refine nt (ab (aX rfl rfl rfl (bg rfl s4 Am) trivial λgw=>?_));refine aM rfl rfl (aL rfl jH trivial rfl rfl) ⟨rfl,rfl,trivial⟩ ?_;refine nt (ab (mq ?_));refine fr 4 ?_;refine lo jH ?_;refine eB (dV (t:=bD) (x:=(c.1,c.2.1)) 50 rfl (.agg (.pair .int .int)) trivial rfl) ?_;obtain⟨mw,y,h⟩:=aa h;refine fr 4 ?_;refine kb (bX (N:=[(.tmp 49,.eq (.map (some z8))),(.tmp 50,.rep bD (c.1,c.2.1))]) (rW (K:=lg) (V:=lg) (t:=(c.1,c.2.1)) (l:=r7) (λn=>.rep bD n) tU rfl Fa (0,0) tR mr (λ_ _ _ h=>mT h) (qC (am y)) (qB _) qD) λ_ _ _ hn=>⟨hn.1,hn.2.1,trivial⟩) ?_;refine fr 1 ?_;refine aM rfl rfl (aL rfl jH rfl rfl rfl) ⟨rfl,rfl,trivial⟩ ?_;refine nl (bY (iu (a:=.rep bD (nf r7 (c.1,c.2.1) (0,0))) (a':=.agg (.pair (I ((nf r7 (c.1,c.2.1) (0,0)).1)) (I ((nf r7 (c.1,c.2.1) (0,0)).2)))) (AE.trans D9 (AE.agg (AE.trans AC (AE.pair AE.int AE.int))))) ?_);exact jz ((O,gw),((nf r7 (c.1,c.2.1) (0,0)).1,(nf r7 (c.1,c.2.1) (0,0)).2,c.2.2++[(nf r7 (c.1,c.2.1) (0,0)).1])) h [0,4,2,5,1]
     .refine xa ?_;exact jz (e.1,c.2.2) h [1,3,4]
    .refine sr (mq ?_);refine fr 2 ?_;refine aM rfl rfl (He rfl rfl Fa) ⟨rfl,trivial⟩ ?_;refine nt (sr (mq ?_));obtain⟨Q,M,h⟩:=aa h;refine fr 1 ?_;refine ka (aA [.tmp 61] rfl rfl Tv rfl (pQ k s j Q M)) ?_;refine nt (sr (mq ?_));refine aq ?_;refine cq (nt (ay ?_));refine bY (jt [6,14,61,63] ⟨rfl,rfl,rfl,rfl,trivial⟩) ?_;cases h;exact rb
def lX(k:Nat)(a0:ae)(a1:Int)(r2:(Option ae)×(List Int)×Int)(q3:ae)(y7:(List Int)×Int):Nat->(Int×Int)->Option Int
 |0,_=>none
 |n+1,c=>
  if c.2 < (r2.2.1.length:Int) then((((aJ r2.2.1 c.2).bind λr=>
  (kw k q3 r).bind λu=>
  (aJ u a1).bind λl=>
  (aJ l y7.2).bind λj=>
  if a0.2.2.1≤j then((ck (c.1+1)).bind λh=>
  some h) else(some c.1)):Option (Int)).bind λs=>
  (ck (c.2+1)).bind λe=>
  lX k a0 a1 r2 q3 y7 n (s,e)) else(some c.1)
def lY(k:Nat)(a0:ae)(a1:Int)(r2:(Option ae)×(List Int)×Int)(q3:ae):Nat->((List Int)×Int)->Option (List Int)
 |0,_=>none
 |n+1,y7=>
  if y7.2 < a0.1 then(((((lX k a0 a1 r2 q3 y7 k (0,0)):Option (Int)).bind λc=>
  (ck ((r2.2.1.length:Int) - c)).bind λe=>
  (cN (bP (length y7.1+length [kK c e]))).bind λ_=>
  some (y7.1++[kK c e])):Option ((List Int))).bind λx9=>
  (ck (y7.2+1)).bind λh=>
  lY k a0 a1 r2 q3 n (x9,h)) else(some y7.1)
def uo(k:Nat)(a0:ae)(a1:Int):Option (Int×Int×Int):=
 (iI k a0 ([]:(List Int)) ([]:(List Int)) [a1]).bind λr2=>
 f5 r2.1 (if¬(r2.2.2=0) then(some (0,0,r2.2.2)) else(none)) (λq3=>if¬(r2.2.2=0) then(some (0,0,r2.2.2)) else(((lY k a0 a1 r2 q3 k (([]:(List Int)),0)):Option ((List Int))).bind λx5=>
 (iD k x5).bind λc=>
 if(r2.2.1.length:Int)≤c then(some (0,0,11)) else((gh k x5 c).bind λe=>
 some (e,c,0))))
theorem zx(k:Nat)(a0:ae)(a1:Int)(r:Int×Int×Int)(h:uo k a0 a1=some r):
 bZ (dW Tryz.prog) 49 [.rep ao a0,I a1] [] (λ_:Unit=>(bL [I r.1,I r.2.1,I r.2.2],[])):=by
 unfold uo at h
 replace h:=bo h
 refine bZ.of 71 Tryz.func49 rfl Tryz.ntmps49 rfl λS w0=>?_
 refine sr ?_
 refine bx λb1=>?_
 refine cq ?_
 refine cq ?_
 refine cq ?_
 refine nt ?_
 refine sr ?_
 refine lo hJ ?_
 refine mq ?_
 refine ja (bb (t:=Ti) [(.tmp 18,_)] [a1] rfl rfl dT (.cons rfl .int .nil) rfl rfl) ?_
 obtain⟨r2,UU,h⟩:=aa h
 have s:=kG k a0 ([]:(List Int)) ([]:(List Int)) [a1] r2 UU
 rcases hr:r2.1 with _ |q3
 .
  rw [hr] at h s;replace h:=uR h;refine aI (Δ:=[]) (F:=_) (λ_ _ _=>ag rfl _) rfl rfl (bX (N:=[(.tmp 17,.rep ao a0),(.const (.slice none 0 0),.eq (.slice none 0 0)),(.const (.slice none 0 0),.eq (.slice none 0 0)),(.tmp 19,.rep Tl [a1])]) (aV [.tmp 17,.const (.slice none 0 0),.const (.slice none 0 0),.tmp 19] rfl rfl zS rfl s) λ_ _ _ hn=>⟨hn.1,(aG (t:=Tl) (x:=([]:(List Int))) .nil rfl rfl hn.2.1),(aG (t:=Tl) (x:=([]:(List Int))) .nil rfl rfl hn.2.2.1),hn.2.2.2.1,trivial⟩) ⟨rfl,rfl,rfl,rfl,trivial⟩ λ_=>?_;refine mq ?_;refine xr ?_;refine xr ?_;refine xr ?_;refine aq ?_;refine aq ?_;refine aq (nt (ak (sr ?_)));refine mq ?_;refine jb (dZ rfl) ?_;refine nt (cn h (λh=>?_) (λh=>?_))
  .refine sr (mq ?_);refine cq ?_;refine cq ?_;refine aq (nt (rx ?_));cases h;exact aR () [_,_,_] 0 ⟨rfl,rfl,rfl,trivial⟩ rfl
  .cases h
 .
  rw [hr] at h s;replace h:=uQ h;refine aI (Δ:=[]) (F:=_) (λ_ _ _=>ag rfl _) rfl rfl (bX (N:=[(.tmp 17,.rep ao a0),(.const (.slice none 0 0),.eq (.slice none 0 0)),(.const (.slice none 0 0),.eq (.slice none 0 0)),(.tmp 19,.rep Tl [a1])]) (aV [.tmp 17,.const (.slice none 0 0),.const (.slice none 0 0),.tmp 19] rfl rfl zS rfl s) λ_ _ _ hn=>⟨hn.1,(aG (t:=Tl) (x:=([]:(List Int))) .nil rfl rfl hn.2.1),(aG (t:=Tl) (x:=([]:(List Int))) .nil rfl rfl hn.2.2.1),hn.2.2.2.1,trivial⟩) ⟨rfl,rfl,rfl,rfl,trivial⟩ λz4=>?_;refine mq ?_;refine xr ?_;refine xr ?_;refine xr ?_;refine aq ?_;refine aq ?_;refine aq (nt (ak (sr ?_)));refine mq ?_;refine jb (dZ rfl) ?_;refine nt (cn h (λh=>?_) (λh=>?_))
  .refine sr (mq ?_);refine cq ?_;refine cq ?_;refine aq (nt (rx ?_));cases h;exact aR () [_,_,_] 0 ⟨rfl,rfl,rfl,trivial⟩ rfl
  .refine sk (sr (cq (nt ?_)));refine aD (Z:=Value) (α:=(List Int)) (λz6 x5=>[(8,.rep (.slice (.int .u8)) r2.2.1),(10,.eq z6)]) (λz6 x5=>[.sl z6 3 Ti x5,.inv z4.2 (bR k q3)]) h (λK h=>?_) (λz6 x5 h=>?_)
   .refine sr (fl gp ?_);refine fr 2 ?_;refine lo cM ?_;refine eP rfl ?_;refine nt (aj (iL (SE.nil 3 Ti) ?_));refine aF (λz8 y7=>[(1,I a1),(2,Pt b1),(7,.eq (.pointer (some ⟨z4.1,0,none⟩))),(8,.rep (.slice (.int .u8)) r2.2.1),(10,.eq z8),(28,I a0.1),(29,I y7.2)]) (λz8 y7=>[.obj b1 26 (.rep ao a0),.obj z4.1 125 (aQ q3 z4.2),.sl z8 3 Ti y7.1,.inv z4.2 (bR k q3)]) (lY k a0 a1 r2 q3) k (.slice none 0 0) (([]:(List Int)),0) (λ_=>rfl) h (SE.fin [1,2,0,3] ⟨rfl,rfl,rfl,rfl,rfl,rfl,rfl,trivial⟩ rfl) (λn z8 y7 h=>?_);unfold lY at h;refine sr (jb (bK rfl) ?_);refine nt (ak (ci h (λh=>?_) (λh=>?_)))
    .refine sk (aD (Z:=Value) (α:=(List Int)) (λe x9=>[(1,I a1),(2,Pt b1),(7,.eq (.pointer (some ⟨z4.1,0,none⟩))),(8,.rep (.slice (.int .u8)) r2.2.1),(10,.eq e),(28,I a0.1),(29,I y7.2)]) (λe x9=>[.obj b1 26 (.rep ao a0),.obj z4.1 125 (aQ q3 z4.2),.sl e 3 Ti x9,.inv z4.2 (bR k q3)]) h (λK h=>?_) (λe x9 h=>?_))
     .refine aj (sr (mq ?_));refine aq (nt (sr ?_));refine cq (nt ?_);refine aD (Z:=Unit) (α:=Int) (λE j=>[(1,I a1),(2,Pt b1),(7,.eq (.pointer (some ⟨z4.1,0,none⟩))),(8,.rep (.slice (.int .u8)) r2.2.1),(10,.eq z8),(12,I j),(28,I a0.1),(29,I y7.2)]) (λE j=>[.obj b1 26 (.rep ao a0),.obj z4.1 125 (aQ q3 z4.2),.sl z8 3 Ti y7.1,.inv z4.2 (bR k q3)]) h (λK h=>?_) (λE j h=>?_)
      .refine sr (mq ?_);refine ol yq ?_;refine eP rfl ?_;refine nt (aj (aF (λD c=>[(1,I a1),(2,Pt b1),(7,.eq (.pointer (some ⟨z4.1,0,none⟩))),(8,.rep (.slice (.int .u8)) r2.2.1),(10,.eq z8),(11,I y7.2),(12,I c.1),(28,I a0.1),(29,I y7.2),(32,.rep (.slice (.int .u8)) r2.2.1),(33,I (r2.2.1.length:Int)),(34,I c.2)]) (λD c=>[.obj b1 26 (.rep ao a0),.obj z4.1 125 (aQ q3 z4.2),.sl z8 3 Ti y7.1,.inv z4.2 (bR k q3)]) (lX k a0 a1 r2 q3 y7) k () (0,0) (λ_=>rfl) h (SE.fin [0,1,2,3] ⟨rfl,rfl,rfl,rfl,rfl,rfl,rfl,rfl,rfl,rfl,rfl,rfl,trivial⟩ rfl) (λn D c h=>?_)));unfold lX at h;refine sr (jb (bK rfl) ?_);refine nt (ak (ci h (λh=>?_) (λh=>?_)))
       .refine sk (aD (Z:=Unit) (α:=Int) (λy l=>[(1,I a1),(2,Pt b1),(7,.eq (.pointer (some ⟨z4.1,0,none⟩))),(8,.rep (.slice (.int .u8)) r2.2.1),(10,.eq z8),(11,I y7.2),(12,I l),(28,I a0.1),(29,I y7.2),(32,.rep (.slice (.int .u8)) r2.2.1),(33,I (r2.2.1.length:Int)),(34,I c.2)]) (λy l=>[.obj b1 26 (.rep ao a0),.obj z4.1 125 (aQ q3 z4.2),.sl z8 3 Ti y7.1,.inv z4.2 (bR k q3)]) h (λK h=>?_) (λy l h=>?_))
        .refine aj (sr ?_);obtain⟨UQ,gw,h⟩:=aa h;refine jb (bj (t:=(.int .u8)) rfl yq nP gw) ?_;refine ja (au (t:=(.int .u8)) rfl nP rfl) ?_;refine aq (nt (ak ?_));refine c9 ?_;refine dm ?_;refine dm ?_;obtain⟨UT,zz,h⟩:=aa h;refine PL 1 3 rfl rfl (by kernel_rfl) rfl rfl rfl (aV [.tmp 38,.tmp 39] rfl rfl BM rfl (ni k q3 z4.1 z4.2 UQ UT zz)) ⟨rfl,rfl,trivial⟩ ?_;refine dm ?_;obtain⟨UW,Y,h⟩:=aa h;refine db (jK (t:=Tr) rfl IM iP rfl rfl (qR) Y) ?_;refine dm ?_;obtain⟨UV,X,h⟩:=aa h;refine db (jK (t:=Ti) rfl AM cM rfl rfl (λ_=>rfl) X) ?_;refine da (aH rfl BF) ?_;refine ea 0 (av rfl cM pr rfl) ?_;refine df eO ?_;refine jb (jh rfl) ?_;refine nt (ci h (λh=>?_) (λh=>?_))
         .refine ab (mq ?_);obtain⟨UP,U,h⟩:=aa h;refine jb (bh rfl U) ?_;refine aq (aC (bn ?_));exact jz ((),UP) h [0,1,2,3]
         .refine aY (bn ?_);exact jz ((),c.1) h [0,1,2,3]
        .refine ab ?_;obtain⟨UO,Q,h⟩:=aa h;refine jb (bh rfl Q) ?_;refine mq (nl ?_);exact jz ((),(l,UO)) h [0,1,2,3]
       .refine xa ?_;exact jz ((),c.1) h [0,1,2,3]
      .refine ab ?_;iterate 3 refine mq ?_
       refine ol yq ?_;refine mq ?_;obtain⟨J,O,h⟩:=aa h;refine jb (eN rfl O) ?_;refine jb (CL rfl rfl) ?_;refine ja (bb (t:=Ti) [(.tmp 57,_)] [kK j J] rfl rfl dT (.cons rfl .int .nil) rfl rfl) ?_;obtain⟨UX,mc,h⟩:=aa h;refine fr 2 ?_;refine er rfl rfl rfl (cI rfl rfl dT (am mc)) ⟨rfl,rfl,trivial⟩ λUR=>?_;refine aq (aC (bn ?_));exact jz (UR,y7.1++[kK j J]) h [1,2,0,3]
     .refine ab ?_;obtain⟨UN,M,h⟩:=aa h;refine jb (bh rfl M) ?_;refine mq (nl ?_);exact jz (e,(x9,UN)) h [0,1,2,3]
    .refine xa ?_;exact jz (z8,y7.1) h [2,3]
   .refine sr (mq ?_);obtain⟨u,qt,h⟩:=aa h;refine ka (lH (N:=[(.tmp 61,.eq z6)]) (aA [.tmp 61] rfl rfl Q1 rfl (nT k x5 u qt)) (λ_ _ _ hv hn=>⟨(lend hn.1 hv),trivial⟩) (λ_=>⟨rfl,oy⟩)) ?_;refine aq (nt (ak (sr ?_)));iterate 2 refine mq ?_
    refine ol yq ?_;refine jb (jh rfl) ?_;refine nt (ci h (λh=>?_) (λh=>?_))
    .refine sr (cq ?_);refine cq ?_;refine cq (nt (rx ?_));cases h;exact aR () [_,_,_] 0 ⟨rfl,rfl,rfl,trivial⟩ rfl
    .refine sk (sr ?_);iterate 2 refine mq ?_
     obtain⟨US,mw,h⟩:=aa h;refine kb (lH (N:=[(.tmp 67,.eq z6),(.tmp 68,I u)]) (aA [.tmp 67,.tmp 68] rfl rfl QY rfl (my k x5 u US mw)) (λ_ _ _ hv hn=>⟨(lend hn.1 hv),hn.2.1,trivial⟩) (λ_=>⟨rfl,oy⟩)) ?_;refine mq ?_;refine aq ?_;refine aq ?_;refine cq (nt (ay ?_));cases h;exact aR () [_,_,_] 0 ⟨rfl,rfl,rfl,trivial⟩ rfl
def jB(k:Nat)(a1:Int)(a2:Int)(y4:(List (List (List Int)))×Int)(h:(List Int)):Nat->((List Int)×Int)->Option (List Int)
 |0,_=>none
 |n+1,c=>
  if c.2 < (h.length:Int) then((((aJ h c.2).bind λe=>
  ((if y4.2 < a1 then(some true) else((eX k a2 e).bind λs=>
  some (!s))):Option (Bool)).bind λl=>
  if l=true then((cN (bP (length c.1+length [e]))).bind λ_=>
  some (c.1++[e])) else(some c.1)):Option ((List Int))).bind λr=>
  (ck (c.2+1)).bind λj=>
  jB k a1 a2 y4 h n (r,j)) else(some c.1)
def jC(k:Nat)(a1:Int)(a2:Int)(y4:(List (List (List Int)))×Int)(x8:(List (List Int))):Nat->((List (List Int))×Int)->Option (List (List Int))
 |0,_=>none
 |n+1,c=>
  if c.2 < (x8.length:Int) then((((aJ x8 c.2).bind λj=>
  ((jB k a1 a2 y4 j k (([]:(List Int)),0)):Option ((List Int))).bind λe=>
  (cN (bP (length c.1+length [e]))).bind λ_=>
  some (c.1++[e])):Option ((List (List Int)))).bind λl=>
  (ck (c.2+1)).bind λh=>
  jC k a1 a2 y4 x8 n (l,h)) else(some c.1)
def jD(k:Nat)(a0:ae)(a1:Int)(a2:Int):Nat->((List (List (List Int)))×Int)->Option (List (List (List Int)))
 |0,_=>none
 |n+1,y4=>
  if y4.2 < (a0.2.2.2.2.1.length:Int) then((((aJ a0.2.2.2.2.1 y4.2).bind λx8=>
  ((jC k a1 a2 y4 x8 k (([]:(List (List Int))),0)):Option ((List (List Int)))).bind λx9=>
  (cN (bP (length y4.1+length [x9]))).bind λ_=>
  some (y4.1++[x9])):Option ((List (List (List Int))))).bind λx6=>
  (ck (y4.2+1)).bind λc=>
  jD k a0 a1 a2 n (x6,c)) else(some y4.1)
def m9(k:Nat)(a0:ae)(a1:Int)(a2:Int):Option (Option ae):=
 ((jD k a0 a1 a2 k (([]:(List (List (List Int)))),0)):Option ((List (List (List Int))))).bind λx2=>
 (iU k (a0.1,a0.2.1,a0.2.2.1,a0.2.2.2.1,x2,a0.2.2.2.2.2)).bind λc=>
 f5 c (some none) (λe=>some (some e))
theorem vD(k:Nat)(a0:ae)(a1:Int)(a2:Int)(r:(Option ae))(h:m9 k a0 a1 a2=some r):
 dG Tryz.prog 83 [.rep ao a0,I a1,.eq (.int .u8 a2)] [] (λz:Nat×Nat=>(bL [J6 r z.1],J5 r λq=>qy q z.1 z.2 k)):=by
 unfold m9 at h
 replace h:=bo h
 refine dG.of 69 Tryz.func83 rfl Tryz.ntmps83 rfl λS w0=>?_
 refine sr ?_
 refine bx λb1=>?_
 refine cq ?_
 refine nt ?_
 refine sr ?_
 refine fl eh ?_
 refine lo kD ?_
 refine mq ?_
 refine ja (rV [.tmp 19] [] [(.int .u8 a2)] [] rfl rfl rfl) ?_
 refine aq ?_
 refine aq ?_
 refine nt ?_
 refine sr ?_
 refine fl eh ?_
 refine aM rfl rfl (aL rfl kD rfl rfl rfl) ⟨rfl,rfl,trivial⟩ ?_
 refine nt ?_
 refine aD (Z:=Value) (α:=(List (List (List Int)))) (λz3 x2=>[(3,Pt b1)]) (λz3 x2=>[.obj b1 26 (.agg (.pair (I a0.1) (.pair (I a0.2.1) (.pair (I a0.2.2.1) (.pair (I a0.2.2.2.1) (.pair (.eq z3) (Rs bf a0.2.2.2.2.2))))))),.sl z3 30 (.slice Tl) x2]) h (λK h=>?_) (λz3 x2 h=>?_)
 .
  refine sr (mq ?_);refine ol vl ?_;refine eP rfl ?_;refine nt (aj (iL (SE.nil 30 (.slice Tl)) ?_));refine dX 1 rfl ?_;refine iL (iu (a:=.agg (.pair (.rep Ti a0.1) (.pair (.rep Ti a0.2.1) (.pair (.rep Ti a0.2.2.1) (.pair (.rep Ti a0.2.2.2.1) (.pair (.eq (.slice none 0 0)) (Rs bf a0.2.2.2.2.2))))))) (a':=.agg (.pair (I a0.1) (.pair (I a0.2.1) (.pair (I a0.2.2.1) (.pair (I a0.2.2.2.1) (.pair (.eq (.slice none 0 0)) (Rs bf a0.2.2.2.2.2))))))) (AE.agg (AE.pair AE.int (AE.pair AE.int (AE.pair AE.int (AE.pair AE.int AE.rfl)))))) ?_;refine aF (λz5 y4=>[(1,I a1),(3,Pt b1),(8,.eq (.func (.func 75) #[(.int .u8 a2)] #[])),(22,.rep (.slice (.slice Tl)) a0.2.2.2.2.1),(23,I (a0.2.2.2.2.1.length:Int)),(24,I y4.2)]) (λz5 y4=>[.obj b1 26 (.agg (.pair (I a0.1) (.pair (I a0.2.1) (.pair (I a0.2.2.1) (.pair (I a0.2.2.2.1) (.pair (.eq z5) (Rs bf a0.2.2.2.2.2))))))),.sl z5 30 (.slice Tl) y4.1]) (jD k a0 a1 a2) k (.slice none 0 0) (([]:(List (List (List Int)))),0) (λ_=>rfl) h (SE.fin [0,1] ⟨rfl,rfl,rfl,rfl,rfl,rfl,trivial⟩ rfl) (λn z5 y4 h=>?_);unfold jD at h;refine sr (jb (bK rfl) ?_);refine nt (ak (ci h (λh=>?_) (λh=>?_)))
  .refine sk (aD (Z:=Value) (α:=(List (List (List Int)))) (λz7 x6=>[(1,I a1),(3,Pt b1),(8,.eq (.func (.func 75) #[(.int .u8 a2)] #[])),(22,.rep (.slice (.slice Tl)) a0.2.2.2.2.1),(23,I (a0.2.2.2.2.1.length:Int)),(24,I y4.2)]) (λz7 x6=>[.obj b1 26 (.agg (.pair (I a0.1) (.pair (I a0.2.1) (.pair (I a0.2.2.1) (.pair (I a0.2.2.2.1) (.pair (.eq z7) (Rs bf a0.2.2.2.2.2))))))),.sl z7 30 (.slice Tl) x6]) h (λK h=>?_) (λz7 x6 h=>?_))
   .refine aj (sr (mq ?_));obtain⟨x8,U2,h⟩:=aa h;refine jb (bj (t:=(.slice Tl)) rfl vl te U2) ?_;refine ja (au (t:=(.slice Tl)) rfl te rfl) ?_;refine aq ?_;refine aq (nt (sr ?_));refine cq (nt ?_);refine aD (Z:=Value) (α:=(List (List Int))) (λQ x9=>[(1,I a1),(3,Pt b1),(8,.eq (.func (.func 75) #[(.int .u8 a2)] #[])),(11,.eq Q),(22,.rep (.slice (.slice Tl)) a0.2.2.2.2.1),(23,I (a0.2.2.2.2.1.length:Int)),(24,I y4.2)]) (λQ x9=>[.obj b1 26 (.agg (.pair (I a0.1) (.pair (I a0.2.1) (.pair (I a0.2.2.1) (.pair (I a0.2.2.2.1) (.pair (.eq z5) (Rs bf a0.2.2.2.2.2))))))),.sl z5 30 (.slice Tl) y4.1,.sl Q 22 Tl x9]) h (λK h=>?_) (λQ x9 h=>?_)
    .refine sr (mq ?_);refine ol qx ?_;refine eP rfl ?_;refine nt (aj (iL (SE.nil 22 Tl) ?_));refine aF (λe c=>[(1,I a1),(3,Pt b1),(8,.eq (.func (.func 75) #[(.int .u8 a2)] #[])),(9,I y4.2),(11,.eq e),(22,.rep (.slice (.slice Tl)) a0.2.2.2.2.1),(23,I (a0.2.2.2.2.1.length:Int)),(24,I y4.2),(29,.rep (.slice Tl) x8),(30,I (x8.length:Int)),(31,I c.2)]) (λe c=>[.obj b1 26 (.agg (.pair (I a0.1) (.pair (I a0.2.1) (.pair (I a0.2.2.1) (.pair (I a0.2.2.2.1) (.pair (.eq z5) (Rs bf a0.2.2.2.2.2))))))),.sl z5 30 (.slice Tl) y4.1,.sl e 22 Tl c.1]) (jC k a1 a2 y4 x8) k (.slice none 0 0) (([]:(List (List Int))),0) (λ_=>rfl) h (SE.fin [1,2,0] ⟨rfl,rfl,rfl,rfl,rfl,rfl,rfl,rfl,rfl,rfl,rfl,trivial⟩ rfl) (λn e c h=>?_);unfold jC at h;refine sr (jb (bK rfl) ?_);refine nt (ak (ci h (λh=>?_) (λh=>?_)))
     .refine sk (aD (Z:=Value) (α:=(List (List Int))) (λE X=>[(1,I a1),(3,Pt b1),(8,.eq (.func (.func 75) #[(.int .u8 a2)] #[])),(9,I y4.2),(11,.eq E),(22,.rep (.slice (.slice Tl)) a0.2.2.2.2.1),(23,I (a0.2.2.2.2.1.length:Int)),(24,I y4.2),(29,.rep (.slice Tl) x8),(30,I (x8.length:Int)),(31,I c.2)]) (λE X=>[.obj b1 26 (.agg (.pair (I a0.1) (.pair (I a0.2.1) (.pair (I a0.2.2.1) (.pair (I a0.2.2.2.1) (.pair (.eq z5) (Rs bf a0.2.2.2.2.2))))))),.sl z5 30 (.slice Tl) y4.1,.sl E 22 Tl X]) h (λK h=>?_) (λE X h=>?_))
      .refine aj (sr ?_);obtain⟨u,UQ,h⟩:=aa h;refine jb (bj (t:=Tl) rfl qx iQ UQ) ?_;refine ja (au (t:=Tl) rfl iQ rfl) ?_;refine aq (nt (sr ?_));refine cq (nt ?_);refine aD (Z:=Value) (α:=(List Int)) (λO M=>[(1,I a1),(3,Pt b1),(8,.eq (.func (.func 75) #[(.int .u8 a2)] #[])),(9,I y4.2),(11,.eq e),(14,.eq O),(22,.rep (.slice (.slice Tl)) a0.2.2.2.2.1),(23,I (a0.2.2.2.2.1.length:Int)),(24,I y4.2),(29,.rep (.slice Tl) x8),(30,I (x8.length:Int)),(31,I c.2)]) (λO M=>[.obj b1 26 (.agg (.pair (I a0.1) (.pair (I a0.2.1) (.pair (I a0.2.2.1) (.pair (I a0.2.2.2.1) (.pair (.eq z5) (Rs bf a0.2.2.2.2.2))))))),.sl z5 30 (.slice Tl) y4.1,.sl e 22 Tl c.1,.sl O 3 Ti M]) h (λK h=>?_) (λO M h=>?_)
       .refine sr (mq ?_);refine ol iK ?_;refine eP rfl ?_;refine nt (aj (iL (SE.nil 3 Ti) ?_));refine aF (λl j=>[(1,I a1),(3,Pt b1),(8,.eq (.func (.func 75) #[(.int .u8 a2)] #[])),(9,I y4.2),(11,.eq e),(14,.eq l),(22,.rep (.slice (.slice Tl)) a0.2.2.2.2.1),(23,I (a0.2.2.2.2.1.length:Int)),(24,I y4.2),(29,.rep (.slice Tl) x8),(30,I (x8.length:Int)),(31,I c.2),(35,.rep Tl u),(36,I (u.length:Int)),(37,I j.2)]) (λl j=>[.obj b1 26 (.agg (.pair (I a0.1) (.pair (I a0.2.1) (.pair (I a0.2.2.1) (.pair (I a0.2.2.2.1) (.pair (.eq z5) (Rs bf a0.2.2.2.2.2))))))),.sl z5 30 (.slice Tl) y4.1,.sl e 22 Tl c.1,.sl l 3 Ti j.1]) (jB k a1 a2 y4 u) k (.slice none 0 0) (([]:(List Int)),0) (λ_=>rfl) h (SE.fin [1,2,3,0] ⟨rfl,rfl,rfl,rfl,rfl,rfl,rfl,rfl,rfl,rfl,rfl,rfl,rfl,rfl,rfl,trivial⟩ rfl) (λn l j h=>?_);unfold jB at h;refine sr (jb (bK rfl) ?_);refine nt (ak (ci h (λh=>?_) (λh=>?_)))
        .refine sk (aD (Z:=Value) (α:=(List Int)) (λD U=>[(1,I a1),(3,Pt b1),(8,.eq (.func (.func 75) #[(.int .u8 a2)] #[])),(9,I y4.2),(11,.eq e),(14,.eq D),(22,.rep (.slice (.slice Tl)) a0.2.2.2.2.1),(23,I (a0.2.2.2.2.1.length:Int)),(24,I y4.2),(29,.rep (.slice Tl) x8),(30,I (x8.length:Int)),(31,I c.2),(35,.rep Tl u),(36,I (u.length:Int)),(37,I j.2)]) (λD U=>[.obj b1 26 (.agg (.pair (I a0.1) (.pair (I a0.2.1) (.pair (I a0.2.2.1) (.pair (I a0.2.2.2.1) (.pair (.eq z5) (Rs bf a0.2.2.2.2.2))))))),.sl z5 30 (.slice Tl) y4.1,.sl e 22 Tl c.1,.sl D 3 Ti U]) h (λK h=>?_) (λD U h=>?_))
         .refine aj (sr ?_);obtain⟨J,UP,h⟩:=aa h;refine jb (bj (t:=Ti) rfl iK cM UP) ?_;refine ja (au (t:=Ti) rfl cM rfl) ?_;refine aq (nt ?_);refine aD (Z:=Unit) (α:=Bool) (λmc gw=>[(1,I a1),(3,Pt b1),(8,.eq (.func (.func 75) #[(.int .u8 a2)] #[])),(9,I y4.2),(11,.eq e),(14,.eq l),(16,I J),(22,.rep (.slice (.slice Tl)) a0.2.2.2.2.1),(23,I (a0.2.2.2.2.1.length:Int)),(24,I y4.2),(29,.rep (.slice Tl) x8),(30,I (x8.length:Int)),(31,I c.2),(35,.rep Tl u),(36,I (u.length:Int)),(37,I j.2),(49,.eq (.bool gw))]) (λmc gw=>[.obj b1 26 (.agg (.pair (I a0.1) (.pair (I a0.2.1) (.pair (I a0.2.2.1) (.pair (I a0.2.2.2.1) (.pair (.eq z5) (Rs bf a0.2.2.2.2.2))))))),.sl z5 30 (.slice Tl) y4.1,.sl e 22 Tl c.1,.sl l 3 Ti j.1]) h (λK h=>?_) (λmc gw h=>?_)
          .refine ab ?_;iterate 2 refine mq ?_
           refine jb (bK rfl) ?_;refine mq ?_;refine ce (s:=44) rfl (λhb=>?_) (λhb=>?_)
           .replace h:=eM (vJ hb) h;iterate 4 refine gn ?_
            refine pt (nl ?_);exact jz ((),true) h [0,1,2,3]
           .replace h:=cV (vK hb) h;refine gm ?_;refine gm ?_;obtain⟨qt,UV,h⟩:=aa h;refine gb (tD (fs:=[(.int .u8 a2)]) (cs:=[]) (ags:=[I J]) [.tmp 46] rfl rfl Ij rfl (gJ k a2 J qt UV)) ?_;refine ga (iE rfl) ?_;refine pf (nl ?_);exact jz ((), !qt) h [0,1,2,3]
          .refine cv h (λh=>?_) (λh=>?_)
           .refine ab ?_;iterate 2 refine mq ?_
            refine ja (bb (t:=Ti) [(.tmp 51,_)] [J] rfl rfl dT (.cons rfl .int .nil) rfl rfl) ?_;obtain⟨U7,UT,h⟩:=aa h;refine fr 3 ?_;refine er rfl rfl rfl (cI rfl rfl dT (am UT)) ⟨rfl,rfl,trivial⟩ λU1=>?_;refine aq (aC (bn ?_));exact jz (U1,j.1++[J]) h [1,2,3,0]
           .refine aY (bn ?_);exact jz (l,j.1) h [0,1,2,3]
         .refine ab ?_;obtain⟨UY,UO,h⟩:=aa h;refine jb (bh rfl UO) ?_;refine mq (nl ?_);exact jz (D,(U,UY)) h [0,1,2,3]
        .refine xa ?_;exact jz (l,j.1) h [0,1,2,3]
       .refine ab ?_;iterate 2 refine mq ?_
        refine fr 3 ?_;refine eB (jt [14,56] ⟨rfl,rfl,trivial⟩) ?_;refine ja (bb (t:=Tl) [(.tmp 56,_)] [M] rfl rfl nE (.cons rfl .rep .nil) rfl rfl) ?_;obtain⟨U6,US,h⟩:=aa h;refine fr 2 ?_;refine er rfl rfl rfl (cI rfl rfl nE (am US)) ⟨rfl,rfl,trivial⟩ λU0=>?_;refine aq (aC (bn ?_));exact jz (U0,c.1++[M]) h [1,2,0]
      .refine ab ?_;obtain⟨UX,UN,h⟩:=aa h;refine jb (bh rfl UN) ?_;refine mq (nl ?_);exact jz (E,(X,UX)) h [0,1,2]
     .refine xa ?_;exact jz (e,c.1) h [0,1,2]
    .refine ab (fl eh ?_);refine lo kD ?_;refine mq ?_;refine fr 2 ?_;refine eB (jt [11,62] ⟨rfl,rfl,trivial⟩) ?_;refine ja (bb (t:=(.slice Tl)) [(.tmp 62,_)] [x9] rfl rfl xh (.cons rfl .rep .nil) rfl rfl) ?_;obtain⟨u32,UR,h⟩:=aa h;refine fr 1 ?_;refine er rfl rfl rfl (cI rfl rfl xh (am UR)) ⟨rfl,rfl,trivial⟩ λUZ=>?_;refine fl eh ?_;refine sX λo34=>?_;refine fr 1 ?_;refine aM rfl rfl (aL rfl kD o34 rfl rfl) ⟨rfl,rfl,trivial⟩ ?_;refine aC (bn ?_);exact jz (UZ,y4.1++[x9]) h [0,1]
   .refine ab ?_;obtain⟨UW,zz,h⟩:=aa h;refine jb (bh rfl zz) ?_;refine mq (nl ?_);exact jz (z7,(x6,UW)) h [0,1]
  .refine xa ?_;exact jz (z5,y4.1) h [0,1]
 .
  refine sr (fr 1 ?_);refine eB (nn (off:=4) [] trivial rfl rfl) ?_;refine lo hJ ?_;obtain⟨mw,UU,h⟩:=aa h;have y:=ny k (a0.1,a0.2.1,a0.2.2.1,a0.2.2.2.1,x2,a0.2.2.2.2.2) mw UU;rcases hr:mw with _ |U8
  .rw [hr] at h y;replace h:=uR h;refine aI (Δ:=[]) (F:=_) (λ_ _ _=>ag rfl _) rfl rfl (bX (N:=[(.tmp 67,.agg (.pair (I a0.1) (.pair (I a0.2.1) (.pair (I a0.2.2.1) (.pair (I a0.2.2.2.1) (.pair (.rep (.slice (.slice Tl)) x2) (Rs bf a0.2.2.2.2.2)))))))]) (aA [.tmp 67] rfl rfl Lp rfl y) λ_ _ _ hn=>⟨(aG (t:=ao) (x:=(a0.1,a0.2.1,a0.2.2.1,a0.2.2.2.1,x2,a0.2.2.2.2.2)) (.agg (.pair .int (.pair .int (.pair .int (.pair .int (.pair .rep .rep)))))) trivial rfl hn.1),trivial⟩) ⟨rfl,trivial⟩ λ_=>?_;refine aq (nt (ay ?_));cases h;exact aR (0,0) [.eq (.pointer none)] 0 ⟨rfl,trivial⟩ rfl
  .rw [hr] at h y;replace h:=uQ h;refine aI (Δ:=[]) (F:=_) (λ_ _ _=>ag rfl _) rfl rfl (bX (N:=[(.tmp 67,.agg (.pair (I a0.1) (.pair (I a0.2.1) (.pair (I a0.2.2.1) (.pair (I a0.2.2.2.1) (.pair (.rep (.slice (.slice Tl)) x2) (Rs bf a0.2.2.2.2.2)))))))]) (aA [.tmp 67] rfl rfl Lp rfl y) λ_ _ _ hn=>⟨(aG (t:=ao) (x:=(a0.1,a0.2.1,a0.2.2.1,a0.2.2.2.1,x2,a0.2.2.2.2.2)) (.agg (.pair .int (.pair .int (.pair .int (.pair .int (.pair .rep .rep)))))) trivial rfl hn.1),trivial⟩) ⟨rfl,trivial⟩ λY=>?_;refine aq (nt (ay ?_));cases h;exact aR (Y.1,Y.2) [.eq (.pointer (some ⟨Y.1,0,none⟩))] 2 ⟨rfl,trivial⟩ rfl
def eZ(k:Nat)(a0:ae)(r1:(List (List Int)))(y5:Int):Nat->Int->Option (Except Bool Unit)
 |0,_=>none
 |n+1,c=>
  if c < a0.1 then((((aJ r1 y5).bind λs=>
  (aJ s c).bind λr=>
  if r < 0 then((ck (y5+1)).bind λl=>
  (aJ r1 l).bind λj=>
  (aJ j c).bind λh=>
  some (decide (h=0))) else(some false)):Option (Bool)).bind λu=>
  if u=true then(some (.error true)) else((ck (c+1)).bind λe=>
  eZ k a0 r1 y5 n e)) else(some (.ok ()))
def fa(k:Nat)(a0:ae)(r1:(List (List Int))):Nat->Int->Option (Except Bool Unit)
 |0,_=>none
 |n+1,y5=>
  if y5 < (a0.2.2.2.2.1.length:Int) then(bE (α:=Unit) ((ck (y5+1)).bind λx9=>
  (aJ r1 x9).bind λh=>
  (aJ r1 y5).bind λc=>
  (cN (xl h/\xl c)).bind λ_=>
  if h=c then(some (.ok ())) else(eZ k a0 r1 y5 k 0)) (λe=>some (.error e)) λ_=>
  (ck (y5+1)).bind λj=>
  fa k a0 r1 n j) else(some (.ok ()))
def iV(k:Nat)(a0:ae)(a1:Int)(a2:Int):Option Bool:=
 (kw k a0 a1).bind λr1=>
 bE (α:=Unit) (fa k a0 r1 k a2) (some) λ_=>
 some false
theorem oe(k:Nat)(a0:ae)(c z_a0:Nat)(a1:Int)(a2:Int)(r:Bool)(h:iV k a0 a1 a2=some r):
 bZ (dW Tryz.prog) 85 [Pt c,.eq (.int .u8 a1),I a2] [.obj c 125 (aQ a0 z_a0),.inv z_a0 (bR k a0)] (λ_:Unit=>(bL [.eq (.bool r)],[.obj c 125 (aQ a0 z_a0),.inv z_a0 (bR k a0)])):=by
 unfold iV at h
 replace h:=bo h
 refine bZ.of 56 Tryz.func85 rfl Tryz.ntmps85 rfl λS w0=>?_
 refine sr ?_
 refine cq ?_
 refine nt ?_
 refine sr ?_
 iterate 2 refine mq ?_
 obtain⟨r1,UN,h⟩:=aa h
 have UO:=ni k a0 c z_a0 a1 r1 UN
 refine fr 1 ?_
 refine fr 1 ?_
 refine aI (Δ:=[_,_]) (F:=_) (λ_ _ _=>ag rfl _) rfl rfl (aV [.tmp 10,.tmp 11] rfl rfl BM rfl UO) ⟨rfl,rfl,trivial⟩ λ_=>?_
 refine aX rfl rfl rfl (bg rfl FG IE) trivial λb2=>?_
 refine aM rfl rfl (aL rfl Gq rfl rfl rfl) ⟨rfl,rfl,trivial⟩ ?_
 refine eB (jr (t:=(.arr 7 Tr)) (x:=r1) [7] .rep ⟨rfl,trivial⟩) ?_
 refine nt ?_
 refine dx (Z:=Unit) (α:=Unit) (λz4 x3=>[]) (λz4 x3=>[.obj c 125 (aQ a0 z_a0),.inv z_a0 (bR k a0)]) (λe=>e=r) h (λe h=>Option.some.inj h) (λK hR h=>?_) (λz4 x3 h=>?_)
 .
  refine sr (mq ?_);refine aq (nt (aj ?_));refine aF (λz6 y5=>[(0,Pt c),(7,.at (.arr 7 Tr) r1),(8,I y5)]) (λz6 y5=>[.obj c 125 (aQ a0 z_a0),.inv z_a0 (bR k a0)]) (fa k a0 r1) k () a2 (λ_=>rfl) h (SE.fin [0,1] ⟨rfl,rfl,rfl,trivial⟩ rfl) (λn z6 y5 h=>?_);unfold fa at h;refine ak (sr ?_);iterate 2 refine mq ?_
  refine ja (cO rfl) ?_;refine fl gY ?_;refine fl eh ?_;refine lo kD ?_;refine ol vl ?_;refine jb (bK rfl) ?_;refine nt (ci h (λh=>?_) (λh=>?_))
  .refine sk (dx (Z:=Unit) (α:=Unit) (λz8 x7=>[(0,Pt c),(7,.at (.arr 7 Tr) r1),(8,I y5)]) (λz8 x7=>[.obj c 125 (aQ a0 z_a0),.inv z_a0 (bR k a0)]) (λe=>e=r) h (λe h=>hR e h) (λK hR h=>?_) (λz8 x7 h=>?_))
   .refine aj (ak (ak (c9 ?_)));refine dm ?_;obtain⟨x9,zz,h⟩:=aa h;refine db (bh rfl zz) ?_;obtain⟨UU,gw,h⟩:=aa h;refine db (cu (t:=Tr) rfl IM iP gw) ?_;refine da (au (t:=Tr) rfl iP rfl) ?_;refine dm ?_;obtain⟨UT,Y,h⟩:=aa h;refine db (cu (t:=Tr) rfl IM iP Y) ?_;refine da (au (t:=Tr) rfl iP rfl) ?_;refine df eO ?_;obtain⟨UV,l,h⟩:=aa h;refine jb (Ha rfl (am l).1 (am l).2) ?_;refine nt (ci h (λh=>?_) (λh=>?_))
    .refine eu (bv (cH (an ?_)));exact jz ((),()) h [0,1]
    .refine sk (sr (mq ?_));refine ja (cO rfl) ?_;refine fl gY ?_;refine fl gp ?_;refine lo cM ?_;refine eP rfl ?_;refine nt (aj (aF (λD j=>[(0,Pt c),(7,.at (.arr 7 Tr) r1),(8,I y5),(36,I a0.1),(37,I j)]) (λD j=>[.obj c 125 (aQ a0 z_a0),.inv z_a0 (bR k a0)]) (eZ k a0 r1 y5) k () 0 (λ_=>rfl) h (SE.fin [0,1] ⟨rfl,rfl,rfl,rfl,rfl,trivial⟩ rfl) (λn D j h=>?_)));unfold eZ at h;refine sr (jb (bK rfl) ?_);refine nt (ak (ci h (λh=>?_) (λh=>?_)))
     .refine sk (ak (aj (sr (mq ?_))));refine aq (nt ?_);refine aD (Z:=Unit) (α:=Bool) (λy u=>[(0,Pt c),(7,.at (.arr 7 Tr) r1),(8,I y5),(36,I a0.1),(37,I j),(54,.eq (.bool u))]) (λy u=>[.obj c 125 (aQ a0 z_a0),.inv z_a0 (bR k a0)]) h (λK h=>?_) (λy u h=>?_)
      .refine ab ?_;iterate 2 refine mq ?_
       obtain⟨US,X,h⟩:=aa h;refine jb (cu (t:=Tr) rfl IM iP X) ?_;obtain⟨UR,U,h⟩:=aa h;refine jb (cu (t:=Ti) rfl AM cM U) ?_;refine ja (au (t:=Ti) rfl cM rfl) ?_;refine jb (bK rfl) ?_;refine mq ?_;refine ce (s:=46) rfl (λhb=>?_) (λhb=>?_)
       .replace h:=eM (vJ hb) h;refine gm ?_;obtain⟨UQ,Q,h⟩:=aa h;refine gb (bh rfl Q) ?_;refine gm ?_;obtain⟨UP,O,h⟩:=aa h;refine gb (cu (t:=Tr) rfl IM iP O) ?_;obtain⟨qt,M,h⟩:=aa h;refine gb (cu (t:=Ti) rfl AM cM M) ?_;refine ga (au (t:=Ti) rfl cM rfl) ?_;refine gb (fH rfl) ?_;refine pt (nl ?_);exact jz ((),decide (qt=0)) h [0,1]
       .replace h:=cV (vK hb) h;iterate 7 refine gn ?_
        refine pf (nl ?_);exact jz ((),false) h [0,1]
      .refine cv h (λh=>?_) (λh=>?_)
       .refine sr (cq (nt (ay (br (aZ (br (aZ (aU ?_))))))));obtain rfl:=hR _ h;exact aR () [_] 2 ⟨rfl,trivial⟩ rfl
       .refine aY (aN (tn (ab ?_)));obtain⟨mw,J,h⟩:=aa h;refine jb (bh rfl J) ?_;refine mq (nl ?_);exact jz ((),mw) h [0,1]
     .refine eu (bv (bv (cH (bn ?_))));exact jz ((),()) h [0,1]
   .refine ab (mq ?_);obtain⟨mc,E,h⟩:=aa h;refine jb (bh rfl E) ?_;refine aq (nl ?_);exact jz ((),mc) h [0,1]
  .refine xa ?_;exact jz ((),()) h [0,1]
 .
  refine sr (cq (nt (ay ?_)));cases h;exact aR () [_] 2 ⟨rfl,trivial⟩ rfl
def nc(k:Nat)(a0:Int)(a1:ae)(a2:Int):Option Bool:=
 (iV k a1 a0 a2).bind λr1=>
 some r1
theorem tp(k:Nat)(a0:Int)(a1:ae)(c z_a1 j:Nat)(a2:Int)(e:Nat)(r:Bool)(h:nc k a0 a1 a2=some r):
 bZ (dW Tryz.prog) 84 [.eq (.int .u8 a0),Pt j,Pt e] [.obj c 125 (aQ a1 z_a1),.inv z_a1 (bR k a1),.obj j 72 (Pt c),.obj e 3 (I a2)] (λ_:Unit=>(bL [.eq (.bool r)],[.obj c 125 (aQ a1 z_a1),.inv z_a1 (bR k a1),.obj j 72 (Pt c),.obj e 3 (I a2)])):=by
 unfold nc at h
 replace h:=bo h
 refine bZ.of 9 Tryz.func84 rfl Tryz.ntmps84 rfl λS w0=>?_
 refine sr ?_
 refine cq ?_
 refine nt ?_
 refine sr ?_
 refine fr 2 ?_
 refine lo JH ?_
 refine mq ?_
 refine fr 3 ?_
 refine lo cM ?_
 obtain⟨r1,l,h⟩:=aa h
 have n:=oe k a1 c z_a1 a0 a2 r1 l
 refine fr 3 ?_
 refine fr 3 ?_
 refine aI (Δ:=[_,_]) (F:=_) (λ_ _ _=>ag rfl _) rfl rfl (aV [.tmp 5,.tmp 6,.tmp 7] rfl rfl Tt rfl n) ⟨rfl,rfl,rfl,trivial⟩ λ_=>?_
 refine aq ?_
 refine nt ?_
 refine ay ?_
 refine bY (SE.fin (Γ':=[(4,_)]) [0,1,3,2] ⟨rfl,trivial⟩ rfl) ?_
 cases h
 exact aR () [_] 4 ⟨rfl,trivial⟩ rfl
def eU(k:Nat)(a0:(List Int))(a1_0:ae)(a1_1:Int):Nat->Int->Option (Except Int Unit)
 |0,_=>none
 |n+1,y3=>
  if y3 < (a0.length:Int) then((aJ a0 y3).bind λx5=>
  (nc k x5 a1_0 a1_1).bind λr6=>
  if r6=true then(some (.error y3)) else((ck (y3+1)).bind λx7=>
  eU k a0 a1_0 a1_1 n x7)) else(some (.ok ()))
def iR(k:Nat)(a0:(List Int))(a1_0:ae)(a1_1:Int):Option Int:=
 bE (α:=Unit) (eU k a0 a1_0 a1_1 k 0) (some) λ_=>
 some (-1:Int)
theorem nU(k:Nat)(a0:(List Int))(a1_0:ae)(b_a1_0 z_a1_0 c_a1_0:Nat)(a1_1:Int)(c_a1_1:Nat)(r:Int)(h:iR k a0 a1_0 a1_1=some r):
 bZ (dW Tryz.prog) 114 [.rep (.slice (.int .u8)) a0,.eq (.func (.func 84) #[] #[(Pv c_a1_0),(Pv c_a1_1)])] [.obj b_a1_0 125 (aQ a1_0 z_a1_0),.inv z_a1_0 (bR k a1_0),.obj c_a1_0 72 (Pt b_a1_0),.obj c_a1_1 3 (I a1_1)] (λ_:Unit=>(bL [I r],[.obj b_a1_0 125 (aQ a1_0 z_a1_0),.inv z_a1_0 (bR k a1_0),.obj c_a1_0 72 (Pt b_a1_0),.obj c_a1_1 3 (I a1_1)])):=by
 unfold iR at h
 replace h:=bo h
 refine bZ.of 19 Tryz.func114 rfl Tryz.ntmps114 rfl λS w0=>?_
 refine sr ?_
 refine cq ?_
 refine nt ?_
 refine dx (Z:=Unit) (α:=Unit) (λz2 x1=>[]) (λz2 x1=>[.obj b_a1_0 125 (aQ a1_0 z_a1_0),.inv z_a1_0 (bR k a1_0),.obj c_a1_0 72 (Pt b_a1_0),.obj c_a1_1 3 (I a1_1)]) (λe=>e=r) h (λe h=>Option.some.inj h) (λK hR h=>?_) (λz2 x1 h=>?_)
 .
  refine sr (mq ?_);refine ol yq ?_;refine eP rfl ?_;refine nt (aj (aF (λz4 y3=>[(0,.rep (.slice (.int .u8)) a0),(1,.eq (.func (.func 84) #[] #[(Pv c_a1_0),(Pv c_a1_1)])),(7,I (a0.length:Int)),(8,I y3)]) (λz4 y3=>[.obj c_a1_0 72 (Pt b_a1_0),.obj b_a1_0 125 (aQ a1_0 z_a1_0),.obj c_a1_1 3 (I a1_1),.inv z_a1_0 (bR k a1_0)]) (eU k a0 a1_0 a1_1) k () 0 (λ_=>rfl) h (SE.fin [2,0,3,1] ⟨rfl,rfl,rfl,rfl,trivial⟩ rfl) (λn z4 y3 h=>?_)));unfold eU at h;refine sr (jb (bK rfl) ?_);refine nt (ak (ci h (λh=>?_) (λh=>?_)))
  .refine sk (ak (aj (sr (mq ?_))));refine aq (nt (sr ?_));iterate 3 refine mq ?_
   obtain⟨x5,j,h⟩:=aa h;refine jb (bj (t:=(.int .u8)) rfl yq nP j) ?_;refine ja (au (t:=(.int .u8)) rfl nP rfl) ?_;obtain⟨r6,l,h⟩:=aa h;refine fr 2 ?_;refine fr 1 ?_;refine fr 3 ?_;refine fr 3 ?_;refine aI (Δ:=[_,_,_,_]) (F:=_) (λ_ _ _=>ag rfl _) rfl rfl (qM (fs:=[]) (cs:=[(Pv c_a1_0),(Pv c_a1_1)]) (ags:=[.eq (.int .u8 x5)]) [.tmp 15] rfl rfl Tu rfl (tp k x5 a1_0 b_a1_0 z_a1_0 c_a1_0 a1_1 c_a1_1 r6 l)) ⟨rfl,rfl,trivial⟩ λ_=>?_;refine nt (cv h (λh=>?_) (λh=>?_))
   .refine sr (mq ?_);refine aq (nt (ay (br (aZ (aU ?_)))));obtain rfl:=hR _ h;exact aR () [_] 4 ⟨rfl,trivial⟩ rfl
   .refine aY (aN (tn (ab ?_)));obtain⟨x7,c,h⟩:=aa h;refine jb (bh rfl c) ?_;refine mq (nl ?_);exact jz ((),x7) h [2,0,3,1]
  .refine xa ?_;exact jz ((),()) h [1,3,0,2]
 .
  refine sr (cq (nt (ay ?_)));cases h;exact aR () [_] 4 ⟨rfl,trivial⟩ rfl
def eV(k:Nat)(a0:(List Int))(a1_0:ae)(a1_1:Int):Option Bool:=
 (iR k a0 a1_0 a1_1).bind λr1=>
 some (decide (0≤r1))
theorem mz(k:Nat)(a0:(List Int))(a1_0:ae)(b_a1_0 z_a1_0 c_a1_0:Nat)(a1_1:Int)(c_a1_1:Nat)(r:Bool)(h:eV k a0 a1_0 a1_1=some r):
 bZ (dW Tryz.prog) 86 [.rep (.slice (.int .u8)) a0,.eq (.func (.func 84) #[] #[(Pv c_a1_0),(Pv c_a1_1)])] [.obj b_a1_0 125 (aQ a1_0 z_a1_0),.inv z_a1_0 (bR k a1_0),.obj c_a1_0 72 (Pt b_a1_0),.obj c_a1_1 3 (I a1_1)] (λ_:Unit=>(bL [.eq (.bool r)],[.obj b_a1_0 125 (aQ a1_0 z_a1_0),.inv z_a1_0 (bR k a1_0),.obj c_a1_0 72 (Pt b_a1_0),.obj c_a1_1 3 (I a1_1)])):=by
 unfold eV at h
 replace h:=bo h
 refine bZ.of 9 Tryz.func86 rfl Tryz.ntmps86 rfl λS w0=>?_
 refine sr ?_
 refine cq ?_
 refine nt ?_
 refine sr ?_
 iterate 2 refine mq ?_
 obtain⟨r1,c,h⟩:=aa h
 have e:=nU k a0 a1_0 b_a1_0 z_a1_0 c_a1_0 a1_1 c_a1_1 r1 c
 refine fr 3 ?_
 refine fr 3 ?_
 refine fr 3 ?_
 refine fr 3 ?_
 refine aI (Δ:=[_,_,_,_]) (F:=_) (λ_ _ _=>ag rfl _) rfl rfl (aV [.tmp 5,.tmp 6] rfl rfl Ri rfl e) ⟨rfl,rfl,trivial⟩ λ_=>?_
 refine jb (jh rfl) ?_
 refine aq ?_
 refine nt ?_
 refine ay ?_
 cases h
 exact aR () [_] 4 ⟨rfl,trivial⟩ rfl
def qf(k:Nat)(a0:ae)(a1:Int):Option ((List Int)×Int):=
 (iI k a0 ([]:(List Int)) [a1] ([]:(List Int))).bind λr3=>
 f5 r3.1 (if¬(r3.2.2=0) then(some (([]:(List Int)),r3.2.2)) else(none)) (λq4=>if¬(r3.2.2=0) then(some (([]:(List Int)),r3.2.2)) else((jP k (qE (λ(c:(List Int)) (e:Int)=>
  (m9 k a0 a1 e).bind λr=>
  f5 r (none) (λs=>(eV k r3.2.1 s a1).bind λn=>
  if¬(n=true) then((cN (bP (length c+length [e]))).bind λ_=>
  some (c++[e],true)) else(some (c,true))))) a0.1 (([]:(List Int)),false)).bind λh=>
 if h.2=true then(none) else((qc k h.1).bind λl=>
 (fW k l).bind λj=>
 some (j,0))))
theorem vF(k:Nat)(a0:ae)(a1:Int)(r:(List Int)×Int)(h:qf k a0 a1=some r):
 bZ (dW Tryz.prog) 50 [.rep ao a0,I a1] [] (λ_:Unit=>(bL [.rep Tl r.1,I r.2],[])):=by
 unfold qf at h
 replace h:=bo h
 refine vf 44 Tryz.func50 rfl Tryz.ntmps50 rfl λS w0=>?_
 refine sr ?_
 refine bx λb1=>?_
 refine bx λb2=>?_
 refine cq ?_
 refine cq ?_
 refine nt ?_
 refine sr ?_
 refine fr 1 ?_
 refine lo hJ ?_
 refine fr 1 ?_
 refine lo cM ?_
 refine ja (bb (t:=Ti) [(.tmp 15,_)] [a1] rfl rfl dT (.cons rfl .int .nil) rfl rfl) ?_
 obtain⟨r3,UP,h⟩:=aa h
 have y:=kG k a0 ([]:(List Int)) [a1] ([]:(List Int)) r3 UP
 rcases hr:r3.1 with _ |q4
 .
  rw [hr] at h y;replace h:=uR h;refine aI (Δ:=[]) (F:=_) (λ_ _ _=>ag rfl _) rfl rfl (bX (N:=[(.tmp 14,.rep ao a0),(.const (.slice none 0 0),.eq (.slice none 0 0)),(.tmp 16,.rep Tl [a1]),(.const (.slice none 0 0),.eq (.slice none 0 0))]) (aV [.tmp 14,.const (.slice none 0 0),.tmp 16,.const (.slice none 0 0)] rfl rfl zS rfl y) λ_ _ _ hn=>⟨hn.1,(aG (t:=Tl) (x:=([]:(List Int))) .nil rfl rfl hn.2.1),hn.2.2.1,(aG (t:=Tl) (x:=([]:(List Int))) .nil rfl rfl hn.2.2.2.1),trivial⟩) ⟨rfl,rfl,rfl,rfl,trivial⟩ λ_=>?_;refine mq ?_;refine xr ?_;refine xr ?_;refine xr ?_;refine aX rfl rfl rfl (bg rfl Jm LO) trivial λb5=>?_;refine aq ?_;refine aM rfl rfl (aL rfl xf rfl rfl rfl) ⟨rfl,rfl,trivial⟩ ?_;refine aq (nt (ak (sr ?_)));refine mq ?_;refine jb (dZ rfl) ?_;refine nt (cn h (λh=>?_) (λh=>?_))
  .refine sr (mq ?_);refine cq ?_;refine aq (nt (rx ?_));refine bY (dV (t:=Tl) (x:=([]:(List Int))) 4 rfl .nil rfl rfl) ?_;refine Aw ?_;cases h;exact rb
  .cases h
 .
  rw [hr] at h y;replace h:=uQ h;refine aI (Δ:=[]) (F:=_) (λ_ _ _=>ag rfl _) rfl rfl (bX (N:=[(.tmp 14,.rep ao a0),(.const (.slice none 0 0),.eq (.slice none 0 0)),(.tmp 16,.rep Tl [a1]),(.const (.slice none 0 0),.eq (.slice none 0 0))]) (aV [.tmp 14,.const (.slice none 0 0),.tmp 16,.const (.slice none 0 0)] rfl rfl zS rfl y) λ_ _ _ hn=>⟨hn.1,(aG (t:=Tl) (x:=([]:(List Int))) .nil rfl rfl hn.2.1),hn.2.2.1,(aG (t:=Tl) (x:=([]:(List Int))) .nil rfl rfl hn.2.2.2.1),trivial⟩) ⟨rfl,rfl,rfl,rfl,trivial⟩ λz6=>?_;refine mq ?_;refine xr ?_;refine xr ?_;refine xr ?_;refine aX rfl rfl rfl (bg rfl Jm LO) trivial λb7=>?_;refine aq ?_;refine aM rfl rfl (aL rfl xf rfl rfl rfl) ⟨rfl,rfl,trivial⟩ ?_;refine aq (nt (ak (sr ?_)));refine mq ?_;refine jb (dZ rfl) ?_;refine nt (cn h (λh=>?_) (λh=>?_))
  .refine sr (mq ?_);refine cq ?_;refine aq (nt (rx ?_));refine bY (dV (t:=Tl) (x:=([]:(List Int))) 4 rfl .nil rfl rfl) ?_;refine Aw ?_;cases h;exact rb
  .refine sk (sr (aX rfl rfl rfl (bg rfl Jm LO) trivial λb8=>?_));refine nt (ak (sr (fl gp ?_)));refine fr 5 ?_;refine lo cM ?_;refine aX rfl rfl rfl (aA [.tmp 25] rfl rfl QZ rfl (qV a0.1)) ⟨rfl,trivial⟩ λb9=>?_;refine nt (aj (iL (SE.nil 73 (.int .u8)) ?_));refine dX 7 rfl ?_;refine dX 7 rfl ?_;refine dX 7 rfl ?_;refine dX 7 rfl ?_;refine dX 4 rfl ?_;refine dX 7 rfl ?_;refine dX 7 rfl ?_;refine dX 7 rfl ?_;obtain⟨u,qt,h⟩:=aa h;refine rG (Δ:=[.obj b9 3 (I a0.1),.obj b1 26 (.rep ao a0),.obj b8 76 (.eq (.slice none 0 0)),.sl (.slice none 0 0) 73 (.int .u8) ([]:(List Int)),.obj b7 76 (.rep (.slice (.int .u8)) r3.2.1),.obj z6.1 125 (aQ q4 z6.2),.inv z6.2 (bR k q4),.obj b2 3 (I a1)]) (F:=[]) (X:=Value) (J:=λ_=>PU u.2) (E:=λc=>[.obj b9 3 (I a0.1),.obj b1 26 (.rep ao a0),.obj b8 76 (.eq c),.sl c 73 (.int .u8) u.1,.obj b7 76 (.rep (.slice (.int .u8)) r3.2.1),.obj z6.1 125 (aQ q4 z6.2),.inv z6.2 (bR k q4),.obj b2 3 (I a1)]) (r0:=λ_=>.tup .any) rfl rfl Np (λrec hp ha hb hs hpe hN hv l=>?_) (λdl c=>tX (λhj=>?_) (λhj=>?_))
   .rcases rec with⟨st0,pe0,fn0,tm0,ps0,as0,bd0,df0⟩;dsimp only at hp ha hb hs hpe hN hv;subst hp hs hpe;have vN:Ap tm0 [(2,Pt b1),(3,Pt b2),(7,Pt b7),(9,Pt b8)]:=⟨congrArg A.eq (hv 2 _ rfl).symm,congrArg A.eq (hv 3 _ rfl).symm,congrArg A.eq (hv 7 _ rfl).symm,congrArg A.eq (hv 9 _ rfl).symm,trivial⟩;refine bZ.pick (M:=(dW Tryz.prog)) [1,0,2,3,4,5,6,7,8] [1,0,2,3,4,5,6,7,8] (oh (λ(c:Value) (q:(List Int)×Bool)=>[.raw l (.loop (kg ⟨.ready,none,fn0,tm0, #[27],as0,bd0,df0⟩ (PU q.2))),.obj b1 26 (.rep ao a0),.obj b8 76 (.eq c),.sl c 73 (.int .u8) q.1,.obj b7 76 (.rep (.slice (.int .u8)) r3.2.1),.obj z6.1 125 (aQ q4 z6.2),.inv z6.2 (bR k q4),.obj b2 3 (I a1)]) l (qE (λ(n:(List Int)) (j:Int)=>
    (m9 k a0 a1 j).bind λs=>
    f5 s (none) (λO=>(eV k r3.2.1 O a1).bind λD=>
    if¬(D=true) then((cN (bP (length n+length [j]))).bind λ_=>
    some (n++[j],true)) else(some (n,true))))) k a0.1 b9 (λc q p r' h=>?_) (.slice none 0 0) (([]:(List Int)),false) u qt) rfl (λ_=>rfl) (λ_=>rfl)
    obtain⟨rq,hq,h2,rfl⟩:=tY h;obtain⟨n,b5⟩:=q;obtain rfl:b5=false:=hq;replace h:=bo h2;obtain⟨j,hpv⟩:∃x,x=p:=⟨_,rfl⟩;subst hpv;refine YT.pick (R':=(λc:Value=>(.eq (.bool rq.2),[.raw l (.loop (kg ⟨.ready,none,fn0,tm0, #[27],as0,bd0,df0⟩ (PU (!rq.2)))),.obj b1 26 (.rep ao a0),.obj b8 76 (.eq c),.sl c 73 (.int .u8) rq.1,.obj b7 76 (.rep (.slice (.int .u8)) r3.2.1),.obj z6.1 125 (aQ q4 z6.2),.inv z6.2 (bR k q4),.obj b2 3 (I a1)]))) [0,1,2,3,4,5,6,7] [0,1,2,3,4,5,6,7] (IH ha hb (N:=44) (Γ:=[(2,Pt b1),(3,Pt b2),(7,Pt b7),(9,Pt b8)]) rfl hN (by decide) vN (λS w=>?_)) rfl (λ_=>rfl) (λ_=>rfl);refine ab (aq (nl ?_));refine Az rfl rfl ?_;refine aj (sr (fr 1 ?_));refine lo hJ ?_;refine fr 7 ?_;refine lo cM ?_;refine mq ?_;obtain⟨s,mw,h⟩:=aa h;have e:=vD k a0 a1 j s mw;rcases hr:s with _ |O
    .rw [hr] at h e;replace h:=uR h;refine aI (Δ:=[]) (F:=_) (λ_ _ _=>ag rfl _) rfl rfl (aA [.tmp 28,.tmp 29,.tmp 30] rfl rfl QX rfl e) ⟨rfl,rfl,rfl,trivial⟩ λ_=>?_;cases h
    .rw [hr] at h e;replace h:=uQ h;refine aI (Δ:=[]) (F:=_) (λ_ _ _=>ag rfl _) rfl rfl (aA [.tmp 28,.tmp 29,.tmp 30] rfl rfl QX rfl e) ⟨rfl,rfl,rfl,trivial⟩ λQ=>?_;refine aX rfl rfl rfl (bg rfl Sz TZ) trivial λzz=>?_;refine aM rfl rfl (aL rfl JH rfl rfl rfl) ⟨rfl,rfl,trivial⟩ ?_;refine nt (sr (jb (rV [] [.tmp 11,.tmp 3] [] [(Pv zz),(Pv b2)] rfl rfl rfl) ?_));refine aq (nt (sr ?_));refine fr 8 ?_;refine lo xf ?_;refine mq ?_;obtain⟨D,mc,h⟩:=aa h;refine fr 4 ?_;refine fr 2 ?_;refine fr 4 ?_;refine fr 4 ?_;refine aI (Δ:=[_,_,_,_]) (F:=_) (λ_ _ _=>ag rfl _) rfl rfl (aV [.tmp 33,.tmp 34] rfl rfl To rfl (mz k r3.2.1 O Q.1 Q.2 zz a1 b2 D mc)) ⟨rfl,rfl,trivial⟩ λ_=>?_;refine ja (iE rfl) ?_;refine nt (cw h (λh=>?_) (λh=>?_))
     .refine ab (fr 7 ?_);refine lo xf ?_;refine mq ?_;refine ja (bb (t:=(.int .u8)) [(.tmp 38,_)] [j] rfl rfl JW (.cons rfl .int .nil) rfl rfl) ?_;obtain⟨UQ,Y,h⟩:=aa h;refine fr 8 ?_;refine er rfl rfl rfl (cI rfl rfl JW (am Y)) ⟨rfl,rfl,trivial⟩ λUN=>?_;refine sX λo22=>?_;refine fr 1 ?_;refine aM rfl rfl (aL rfl xf o22 rfl rfl) ⟨rfl,rfl,trivial⟩ ?_;refine aC (aN (bz 5 rfl ?_));refine bz 10 rfl ?_;refine bz 10 rfl ?_;refine bz 8 rfl ?_;refine bz 5 rfl ?_;refine bz 5 rfl ?_;refine bz 9 rfl ?_;refine bz 10 rfl ?_;cases h;exact pm UN 7 rfl
     .refine aY (aN (bz 3 rfl ?_));refine bz 10 rfl ?_;refine bz 10 rfl ?_;refine bz 6 rfl ?_;refine bz 10 rfl ?_;refine bz 10 rfl ?_;refine bz 9 rfl ?_;refine bz 10 rfl ?_;cases h;exact pm c 7 rfl
   .replace h:=cV (MY hj) h;refine aN (tn (sr (fr 3 ?_)));refine lo xf ?_;obtain⟨U,gw,h⟩:=aa h;refine fr 4 ?_;refine kb (lH (N:=[(.tmp 41,.eq c),(.func 88,.eq (.func (.func 88) #[] #[]))]) (aA [.tmp 41,.func 88] rfl rfl Tn rfl (vE k u.1 U gw)) (λ_ _ _ hv hn=>⟨(lend hn.1 hv),hn.2.1,trivial⟩) (λ_=>⟨rfl,oy⟩)) ?_;obtain⟨UO,Z,h⟩:=aa h;refine ja (aA [.tmp 42] rfl rfl OX rfl (km k U UO Z)) ?_;refine aq ?_;refine cq (nt (ay ?_));refine bz 2 rfl ?_;refine DZ ?_;cases h;exact rb
   .replace h:=eM (MV hj) h;cases h
def qZ(k:Nat):Option Bool:=
 (iJ k ([]:(List bI))).bind λr1=>
 (ix k r1 [0]).bind λr2=>
 (iJ k ([]:(List bI))).bind λr3=>
 (iy k r3).bind λr4=>
 (iJ k ([]:(List bI))).bind λr5=>
 (kV k r5 2).bind λr6=>
 (iJ k ([]:(List bI))).bind λr8=>
 (so k r8 [0] 3).bind λr9=>
 (iJ k ([]:(List bI))).bind λu=>
 (uo k u 2).bind λc=>
 (iJ k ([]:(List bI))).bind λs=>
 (qf k s 2).bind λe=>
 ((if r2.2=0 then(if r4.2=0 then(if r6.2=0 then(if r9.2=0 then(if c.2.2=0 then(if e.2=0 then(if r6.1=(1,3) then(if c.1=2 then(if c.2.1=2 then((jF k r2.1 [[1,(-1:Int),(-1:Int),(-1:Int)],[2,0,(-1:Int),(-1:Int)],[3,1,(-1:Int),(-1:Int)],[3,2,0,(-1:Int)],[(-1:Int),3,1,0]]).bind λr=>
 if r=true then((jF k r4.1 [[0],[0,1],[1]]).bind λn=>
 if n=true then((iZ k r9.1 [0,1,3]).bind λl=>
 if l=true then((iZ k e.1 [1,2]).bind λj=>
 some j) else(some false)) else(some false)) else(some false)) else(some false)) else(some false)) else(some false)) else(some false)) else(some false)) else(some false)) else(some false)) else(some false)) else(some false)):Option (Bool)).bind λh=>
 some h
theorem zJ(k:Nat)(r:Bool)(h:qZ k=some r):
 bZ (dW Tryz.prog) 16 [] [] (λ_:Unit=>(bL [.eq (.bool r)],[])):=by
 unfold qZ at h
 replace h:=bo h
 refine bZ.of 110 Tryz.func16 rfl Tryz.ntmps16 rfl λS w0=>?_
 refine sr ?_
 refine cq ?_
 refine nt ?_
 refine sr ?_
 obtain⟨r1,UT,h⟩:=aa h
 have U1:=gW k ([]:(List bI)) r1 UT
 refine ja (bX (N:=[(.const (.slice none 0 0),.eq (.slice none 0 0))]) (aA [.const (.slice none 0 0)] rfl rfl EQ rfl U1) λ_ _ _ hn=>⟨(aG (t:=(.slice bf)) (x:=([]:(List bI))) .nil rfl rfl hn.1),trivial⟩) ?_
 refine ja (bb (t:=Ti) [(.const (.int .i64 (0)),_)] [0] rfl rfl dT (.cons rfl .int .nil) rfl rfl) ?_
 obtain⟨r2,US,h⟩:=aa h
 have U0:=pE k r1 [0] r2 US
 refine jb (aV [.tmp 15,.tmp 16] rfl rfl Re rfl U0) ?_
 refine mq ?_
 refine xr ?_
 refine xr ?_
 refine aq ?_
 refine aq ?_
 refine nt ?_
 refine sr ?_
 obtain⟨r3,UR,h⟩:=aa h
 have UZ:=gW k ([]:(List bI)) r3 UR
 refine ja (bX (N:=[(.const (.slice none 0 0),.eq (.slice none 0 0))]) (aA [.const (.slice none 0 0)] rfl rfl EQ rfl UZ) λ_ _ _ hn=>⟨(aG (t:=(.slice bf)) (x:=([]:(List bI))) .nil rfl rfl hn.1),trivial⟩) ?_
 obtain⟨r4,UQ,h⟩:=aa h
 have UY:=pG k r3 r4 UQ
 refine ja (aV [.tmp 21] rfl rfl Rj rfl UY) ?_
 refine mq ?_
 refine xr ?_
 refine xr ?_
 refine aq ?_
 refine aq ?_
 refine nt ?_
 refine sr ?_
 obtain⟨r5,UP,h⟩:=aa h
 have UX:=gW k ([]:(List bI)) r5 UP
 refine ja (bX (N:=[(.const (.slice none 0 0),.eq (.slice none 0 0))]) (aA [.const (.slice none 0 0)] rfl rfl EQ rfl UX) λ_ _ _ hn=>⟨(aG (t:=(.slice bf)) (x:=([]:(List bI))) .nil rfl rfl hn.1),trivial⟩) ?_
 obtain⟨r6,UO,h⟩:=aa h
 have UW:=qW k r5 2 r6 UO
 refine jb (aV [.tmp 26,.const (.int .i64 (2))] rfl rfl Q9 rfl UW) ?_
 refine mq ?_
 refine xr ?_
 refine xr ?_
 refine aX rfl rfl rfl (bg rfl rL LQ) trivial λb7=>?_
 refine aM rfl rfl (aL rfl nQ rfl rfl rfl) ⟨rfl,rfl,trivial⟩ ?_
 refine aq ?_
 refine nt ?_
 refine sr ?_
 obtain⟨r8,UN,h⟩:=aa h
 have UV:=gW k ([]:(List bI)) r8 UN
 refine ja (bX (N:=[(.const (.slice none 0 0),.eq (.slice none 0 0))]) (aA [.const (.slice none 0 0)] rfl rfl EQ rfl UV) λ_ _ _ hn=>⟨(aG (t:=(.slice bf)) (x:=([]:(List bI))) .nil rfl rfl hn.1),trivial⟩) ?_
 refine ja (bb (t:=Ti) [(.const (.int .i64 (0)),_)] [0] rfl rfl dT (.cons rfl .int .nil) rfl rfl) ?_
 obtain⟨r9,zz,h⟩:=aa h
 have UU:=xJ k r8 [0] 3 r9 zz
 refine jc (aV [.tmp 31,.tmp 32,.const (.int .i64 (3))] rfl rfl TM rfl UU) ?_
 refine mq ?_
 refine xr ?_
 refine xr ?_
 refine aq ?_
 refine aq ?_
 refine nt ?_
 refine sr ?_
 obtain⟨u,O,h⟩:=aa h
 have Y:=gW k ([]:(List bI)) u O
 refine ja (bX (N:=[(.const (.slice none 0 0),.eq (.slice none 0 0))]) (aA [.const (.slice none 0 0)] rfl rfl EQ rfl Y) λ_ _ _ hn=>⟨(aG (t:=(.slice bf)) (x:=([]:(List bI))) .nil rfl rfl hn.1),trivial⟩) ?_
 obtain⟨qt,M,h⟩:=aa h
 have X:=zx k u 2 qt M
 refine jb (aV [.tmp 37,.const (.int .i64 (2))] rfl rfl TL rfl X) ?_
 refine mq ?_
 refine xr ?_
 refine xr ?_
 refine xr ?_
 refine aq ?_
 refine aq ?_
 refine aq ?_
 refine nt ?_
 refine sr ?_
 obtain⟨n,J,h⟩:=aa h
 have U:=gW k ([]:(List bI)) n J
 refine ja (bX (N:=[(.const (.slice none 0 0),.eq (.slice none 0 0))]) (aA [.const (.slice none 0 0)] rfl rfl EQ rfl U) λ_ _ _ hn=>⟨(aG (t:=(.slice bf)) (x:=([]:(List bI))) .nil rfl rfl hn.1),trivial⟩) ?_
 obtain⟨l,I,h⟩:=aa h
 have Q:=vF k n 2 l I
 refine jb (aV [.tmp 43,.const (.int .i64 (2))] rfl rfl TK rfl Q) ?_
 refine mq ?_
 refine xr ?_
 refine xr ?_
 refine aq ?_
 refine aq ?_
 refine nt ?_
 refine aD (Z:=Unit) (α:=Bool) (λe c=>[(0,.eq (.bool c))]) (λe c=>[]) h (λK h=>?_) (λe c h=>?_)
 .
  refine ab (mq ?_);refine jb (fH rfl) ?_;refine mq ?_;refine ce (s:=49) rfl (λhb=>?_) (λhb=>?_)
  .replace h:=eM (vJ hb) h;refine gm ?_;refine gb (fH rfl) ?_;refine pt ?_;refine mq ?_;refine ce (s:=53) rfl (λhb=>?_) (λhb=>?_)
   .replace h:=eM (vJ hb) h;refine gm ?_;refine gb (fH rfl) ?_;refine pt ?_;refine mq ?_;refine ce (s:=57) rfl (λhb=>?_) (λhb=>?_)
    .replace h:=eM (vJ hb) h;refine gm ?_;refine gb (fH rfl) ?_;refine pt ?_;refine mq ?_;refine ce (s:=61) rfl (λhb=>?_) (λhb=>?_)
     .replace h:=eM (vJ hb) h;refine gm ?_;refine gb (fH rfl) ?_;refine pt ?_;refine mq ?_;refine ce (s:=65) rfl (λhb=>?_) (λhb=>?_)
      .replace h:=eM (vJ hb) h;refine gm ?_;refine gb (fH rfl) ?_;refine pt ?_;refine mq ?_;refine ce (s:=69) rfl (λhb=>?_) (λhb=>?_)
       .replace h:=eM (vJ hb) h;refine jv rfl rfl rfl rfl rfl rfl (av rfl nQ (qR) rfl) ⟨rfl,trivial⟩ ?_;refine gb (dq [(0,.const (.int .i64 (1)),_),(1,.const (.int .i64 (3)),_)] rfl xu rL rA (hP ⟨rfl,rfl,trivial⟩) rfl) ?_;refine eB (dV (t:=bD) (x:=(1,3)) 71 rfl (.agg (.pair .int .int)) trivial rfl) ?_;refine gb (Oy rfl Lm rfl) ?_;refine pt ?_;refine mq ?_;refine ce (s:=74) rfl (λhb=>?_) (λhb=>?_)
        .replace h:=eM (vJ hb) h;refine gm ?_;refine gb (fH rfl) ?_;refine pt ?_;refine mq ?_;refine ce (s:=78) rfl (λhb=>?_) (λhb=>?_)
         .replace h:=eM (vJ hb) h;refine gm ?_;refine gb (fH rfl) ?_;refine pt ?_;refine mq ?_;refine ce (s:=82) rfl (λhb=>?_) (λhb=>?_)
          .replace h:=eM (vJ hb) h;refine gm ?_;refine kx rfl rfl rfl rfl rfl rfl (bb (t:=Ti) [(.const (.int .i64 (1)),_),(.const (.int .i64 (-1)),_),(.const (.int .i64 (-1)),_),(.const (.int .i64 (-1)),_)] [1,(-1:Int),(-1:Int),(-1:Int)] rfl rfl dT (.cons rfl .int (.cons rfl .int (.cons rfl .int (.cons rfl .int .nil)))) rfl rfl) ⟨rfl,rfl,rfl,rfl,trivial⟩ ?_;refine kx rfl rfl rfl rfl rfl rfl (bb (t:=Ti) [(.const (.int .i64 (2)),_),(.const (.int .i64 (0)),_),(.const (.int .i64 (-1)),_),(.const (.int .i64 (-1)),_)] [2,0,(-1:Int),(-1:Int)] rfl rfl dT (.cons rfl .int (.cons rfl .int (.cons rfl .int (.cons rfl .int .nil)))) rfl rfl) ⟨rfl,rfl,rfl,rfl,trivial⟩ ?_;refine kx rfl rfl rfl rfl rfl rfl (bb (t:=Ti) [(.const (.int .i64 (3)),_),(.const (.int .i64 (1)),_),(.const (.int .i64 (-1)),_),(.const (.int .i64 (-1)),_)] [3,1,(-1:Int),(-1:Int)] rfl rfl dT (.cons rfl .int (.cons rfl .int (.cons rfl .int (.cons rfl .int .nil)))) rfl rfl) ⟨rfl,rfl,rfl,rfl,trivial⟩ ?_;refine kx rfl rfl rfl rfl rfl rfl (bb (t:=Ti) [(.const (.int .i64 (3)),_),(.const (.int .i64 (2)),_),(.const (.int .i64 (0)),_),(.const (.int .i64 (-1)),_)] [3,2,0,(-1:Int)] rfl rfl dT (.cons rfl .int (.cons rfl .int (.cons rfl .int (.cons rfl .int .nil)))) rfl rfl) ⟨rfl,rfl,rfl,rfl,trivial⟩ ?_;refine kx rfl rfl rfl rfl rfl rfl (bb (t:=Ti) [(.const (.int .i64 (-1)),_),(.const (.int .i64 (3)),_),(.const (.int .i64 (1)),_),(.const (.int .i64 (0)),_)] [(-1:Int),3,1,0] rfl rfl dT (.cons rfl .int (.cons rfl .int (.cons rfl .int (.cons rfl .int .nil)))) rfl rfl) ⟨rfl,rfl,rfl,rfl,trivial⟩ ?_;refine kx rfl rfl rfl rfl rfl rfl (bb (t:=Tl) [(.tmp 84,_),(.tmp 85,_),(.tmp 86,_),(.tmp 87,_),(.tmp 88,_)] [[1,(-1:Int),(-1:Int),(-1:Int)],[2,0,(-1:Int),(-1:Int)],[3,1,(-1:Int),(-1:Int)],[3,2,0,(-1:Int)],[(-1:Int),3,1,0]] rfl rfl nE (.cons rfl .rep (.cons rfl .rep (.cons rfl .rep (.cons rfl .rep (.cons rfl .rep .nil))))) rfl rfl) ⟨rfl,rfl,rfl,rfl,rfl,trivial⟩ ?_;obtain⟨mw,F,h⟩:=aa h;refine gb (aA [.tmp 83,.tmp 89] rfl rfl Q0 rfl (mJ k r2.1 [[1,(-1:Int),(-1:Int),(-1:Int)],[2,0,(-1:Int),(-1:Int)],[3,1,(-1:Int),(-1:Int)],[3,2,0,(-1:Int)],[(-1:Int),3,1,0]] mw F)) ?_;refine pt ?_;refine mq ?_;refine ce (s:=92) rfl (λhb=>?_) (λhb=>?_)
           .replace h:=eM (MV hb) h;refine gm ?_;refine ga (bb (t:=Ti) [(.const (.int .i64 (0)),_)] [0] rfl rfl dT (.cons rfl .int .nil) rfl rfl) ?_;refine gb (bb (t:=Ti) [(.const (.int .i64 (0)),_),(.const (.int .i64 (1)),_)] [0,1] rfl rfl dT (.cons rfl .int (.cons rfl .int .nil)) rfl rfl) ?_;refine ga (bb (t:=Ti) [(.const (.int .i64 (1)),_)] [1] rfl rfl dT (.cons rfl .int .nil) rfl rfl) ?_;refine gc (bb (t:=Tl) [(.tmp 94,_),(.tmp 95,_),(.tmp 96,_)] [[0],[0,1],[1]] rfl rfl nE (.cons rfl .rep (.cons rfl .rep (.cons rfl .rep .nil))) rfl rfl) ?_;obtain⟨mc,E,h⟩:=aa h;refine gb (aA [.tmp 93,.tmp 97] rfl rfl Q0 rfl (mJ k r4.1 [[0],[0,1],[1]] mc E)) ?_;refine pt ?_;refine mq ?_;refine ce (s:=100) rfl (λhb=>?_) (λhb=>?_)
            .replace h:=eM (MV hb) h;refine gm ?_;refine gc (bb (t:=Ti) [(.const (.int .i64 (0)),_),(.const (.int .i64 (1)),_),(.const (.int .i64 (3)),_)] [0,1,3] rfl rfl dT (.cons rfl .int (.cons rfl .int (.cons rfl .int .nil))) rfl rfl) ?_;obtain⟨gw,D,h⟩:=aa h;refine gb (aA [.tmp 101,.tmp 102] rfl rfl OY rfl (kp k r9.1 [0,1,3] gw D)) ?_;refine pt ?_;refine mq ?_;refine ce (s:=105) rfl (λhb=>?_) (λhb=>?_)
             .replace h:=eM (MV hb) h;refine gm ?_;refine gb (bb (t:=Ti) [(.const (.int .i64 (1)),_),(.const (.int .i64 (2)),_)] [1,2] rfl rfl dT (.cons rfl .int (.cons rfl .int .nil)) rfl rfl) ?_;obtain⟨j,y,h⟩:=aa h;refine gb (aA [.tmp 106,.tmp 107] rfl rfl OY rfl (kp k l.1 [1,2] j y)) ?_;refine pt ?_;refine aq (nl ?_);exact jz ((),j) h []
             .replace h:=cV (MY hb) h;iterate 3 refine gn ?_
              refine pf ?_;refine aq (nl ?_);exact jz ((),false) h []
            .replace h:=cV (MY hb) h;iterate 3 refine gn ?_
             refine pf ?_;refine mq ?_;iterate 3 refine gn ?_
             refine pf ?_;refine aq (nl ?_);exact jz ((),false) h []
           .replace h:=cV (MY hb) h;iterate 6 refine gn ?_
            refine pf ?_;refine mq ?_;iterate 3 refine gn ?_
            refine pf ?_;refine mq ?_;iterate 3 refine gn ?_
            refine pf ?_;refine aq (nl ?_);exact jz ((),false) h []
          .replace h:=cV (vK hb) h;iterate 8 refine gn ?_
           refine pf ?_;refine mq ?_;iterate 6 refine gn ?_
           refine pf ?_;refine mq ?_;iterate 3 refine gn ?_
           refine pf ?_;refine mq ?_;iterate 3 refine gn ?_
           refine pf ?_;refine aq (nl ?_);exact jz ((),false) h []
         .replace h:=cV (vK hb) h;iterate 2 refine gn ?_
          refine pf ?_;refine mq ?_;iterate 8 refine gn ?_
          refine pf ?_;refine mq ?_;iterate 6 refine gn ?_
          refine pf ?_;refine mq ?_;iterate 3 refine gn ?_
          refine pf ?_;refine mq ?_;iterate 3 refine gn ?_
          refine pf ?_;refine aq (nl ?_);exact jz ((),false) h []
        .replace h:=cV (vK hb) h;iterate 2 refine gn ?_
         refine pf ?_;refine mq ?_;iterate 2 refine gn ?_
         refine pf ?_;refine mq ?_;iterate 8 refine gn ?_
         refine pf ?_;refine mq ?_;iterate 6 refine gn ?_
         refine pf ?_;refine mq ?_;iterate 3 refine gn ?_
         refine pf ?_;refine mq ?_;iterate 3 refine gn ?_
         refine pf ?_;refine aq (nl ?_);exact jz ((),false) h []
       .replace h:=cV (vK hb) h;iterate 3 refine gn ?_
        refine pf ?_;refine mq ?_;iterate 2 refine gn ?_
        refine pf ?_;refine mq ?_;iterate 2 refine gn ?_
        refine pf ?_;refine mq ?_;iterate 8 refine gn ?_
        refine pf ?_;refine mq ?_;iterate 6 refine gn ?_
        refine pf ?_;refine mq ?_;iterate 3 refine gn ?_
        refine pf ?_;refine mq ?_;iterate 3 refine gn ?_
        refine pf ?_;refine aq (nl ?_);exact jz ((),false) h []
      .replace h:=cV (vK hb) h;iterate 2 refine gn ?_
       refine pf ?_;refine mq ?_;iterate 3 refine gn ?_
       refine pf ?_;refine mq ?_;iterate 2 refine gn ?_
       refine pf ?_;refine mq ?_;iterate 2 refine gn ?_
       refine pf ?_;refine mq ?_;iterate 8 refine gn ?_
       refine pf ?_;refine mq ?_;iterate 6 refine gn ?_
       refine pf ?_;refine mq ?_;iterate 3 refine gn ?_
       refine pf ?_;refine mq ?_;iterate 3 refine gn ?_
       refine pf ?_;refine aq (nl ?_);exact jz ((),false) h []
     .replace h:=cV (vK hb) h;iterate 2 refine gn ?_
      refine pf ?_;refine mq ?_;iterate 2 refine gn ?_
      refine pf ?_;refine mq ?_;iterate 3 refine gn ?_
      refine pf ?_;refine mq ?_;iterate 2 refine gn ?_
      refine pf ?_;refine mq ?_;iterate 2 refine gn ?_
      refine pf ?_;refine mq ?_;iterate 8 refine gn ?_
      refine pf ?_;refine mq ?_;iterate 6 refine gn ?_
      refine pf ?_;refine mq ?_;iterate 3 refine gn ?_
      refine pf ?_;refine mq ?_;iterate 3 refine gn ?_
      refine pf ?_;refine aq (nl ?_);exact jz ((),false) h []
    .replace h:=cV (vK hb) h;iterate 2 refine gn ?_
     refine pf ?_;refine mq ?_;iterate 2 refine gn ?_
     refine pf ?_;refine mq ?_;iterate 2 refine gn ?_
     refine pf ?_;refine mq ?_;iterate 3 refine gn ?_
     refine pf ?_;refine mq ?_;iterate 2 refine gn ?_
     refine pf ?_;refine mq ?_;iterate 2 refine gn ?_
     refine pf ?_;refine mq ?_;iterate 8 refine gn ?_
     refine pf ?_;refine mq ?_;iterate 6 refine gn ?_
     refine pf ?_;refine mq ?_;iterate 3 refine gn ?_
     refine pf ?_;refine mq ?_;iterate 3 refine gn ?_
     refine pf ?_;refine aq (nl ?_);exact jz ((),false) h []
   .replace h:=cV (vK hb) h;iterate 2 refine gn ?_
    refine pf ?_;refine mq ?_;iterate 2 refine gn ?_
    refine pf ?_;refine mq ?_;iterate 2 refine gn ?_
    refine pf ?_;refine mq ?_;iterate 2 refine gn ?_
    refine pf ?_;refine mq ?_;iterate 3 refine gn ?_
    refine pf ?_;refine mq ?_;iterate 2 refine gn ?_
    refine pf ?_;refine mq ?_;iterate 2 refine gn ?_
    refine pf ?_;refine mq ?_;iterate 8 refine gn ?_
    refine pf ?_;refine mq ?_;iterate 6 refine gn ?_
    refine pf ?_;refine mq ?_;iterate 3 refine gn ?_
    refine pf ?_;refine mq ?_;iterate 3 refine gn ?_
    refine pf ?_;refine aq (nl ?_);exact jz ((),false) h []
  .replace h:=cV (vK hb) h;iterate 2 refine gn ?_
   refine pf ?_;refine mq ?_;iterate 2 refine gn ?_
   refine pf ?_;refine mq ?_;iterate 2 refine gn ?_
   refine pf ?_;refine mq ?_;iterate 2 refine gn ?_
   refine pf ?_;refine mq ?_;iterate 2 refine gn ?_
   refine pf ?_;refine mq ?_;iterate 3 refine gn ?_
   refine pf ?_;refine mq ?_;iterate 2 refine gn ?_
   refine pf ?_;refine mq ?_;iterate 2 refine gn ?_
   refine pf ?_;refine mq ?_;iterate 8 refine gn ?_
   refine pf ?_;refine mq ?_;iterate 6 refine gn ?_
   refine pf ?_;refine mq ?_;iterate 3 refine gn ?_
   refine pf ?_;refine mq ?_;iterate 3 refine gn ?_
   refine pf ?_;refine aq (nl ?_);exact jz ((),false) h []
 .
  refine ay ?_;cases h;exact ra
def c6(k:Nat)(r3:ae×bM)(r5:(List (List Int))×Int):Nat->((List (List (List Int)))×Int)->Option (Except Bool (List (List (List Int))))
 |0,_=>none
 |n+1,c=>
  if c.2 < (r5.1.length:Int) then((aJ r5.1 c.2).bind λl=>
  (ix k r3.1 l).bind λe=>
  ((if¬(e.2=0) then(some true) else((kW k r3.1 e.1).bind λr=>
  some (!r))):Option (Bool)).bind λj=>
  if j=true then(some (.error false)) else((cN (bP (length c.1+length [e.1]))).bind λ_=>
  (ck (c.2+1)).bind λh=>
  c6 k r3 r5 n (c.1++[e.1],h))) else(some (.ok c.1))
def bV(k:Nat)(r3:ae×bM)(r5:(List (List Int))×Int):Nat->((List (List Int))×Int)->Option (Except Bool (List (List Int)))
 |0,_=>none
 |n+1,c=>
  if c.2≤(r3.1.2.2.2.2.1.length:Int) then(bE (α:=(List (List Int))) ((mF k r3.1 c.2).bind λh=>
  if(r5.1.length:Int)=0 then(if¬(h.2=9) then(some (.error false)) else(some (.ok c.1))) else(((if¬(h.2=0) then(some true) else(some (!decide ((h.1.length:Int)=r3.1.1)))):Option (Bool)).bind λl=>
  if l=true then(some (.error false)) else((cN (bP (length c.1+length [h.1]))).bind λ_=>
  some (.ok (c.1++[h.1]))))) (λe=>some (.error e)) λr=>
  (ck (c.2+1)).bind λj=>
  bV k r3 r5 n (r,j)) else(some (.ok c.1))
def cJ(k:Nat)(x8:(List (List (List Int))))(h:Int)(e:Int×Int×Bool×(List Int)×Int):Nat->((List Int)×Int×Int)->Option ((List Int)×Int)
 |0,_=>none
 |n+1,c=>
  (aJ x8 e.2.2.2.2).bind λD=>
  if c.2.2 < (D.length:Int) then((((aJ x8 e.2.2.2.2).bind λy=>
  (aJ y c.2.2).bind λx=>
  (aJ x h).bind λu=>
  if 0≤u then((aJ c.1 c.2.2).bind λs=>
  (ck (s+1)).bind λj=>
  (aJ c.1 c.2.2).bind λE=>
  if c.2.1 < 0 then(some (List.set c.1 (Int.toNat c.2.2) j,c.2.2)) else(some (List.set c.1 (Int.toNat c.2.2) j,c.2.1))) else(some (c.1,c.2.1))):Option ((List Int)×Int)).bind λl=>
  (ck (c.2.2+1)).bind λr=>
  cJ k x8 h e n (l.1,l.2,r)) else(some (c.1,c.2.1))
def cY(k:Nat)(x8:(List (List (List Int))))(j:Int):Nat->(Int×Int×Bool×(List Int)×Int)->Option (Int×Int×Bool×(List Int))
 |0,_=>none
 |n+1,c=>
  if c.2.2.2.2 < (x8.length:Int) then(((((cJ k x8 j c k (c.2.2.2.1,(-1:Int),0)):Option ((List Int)×Int)).bind λe=>
  if 0≤e.2 then(some (pu c.1 e.2,kK c.2.1 e.2,true,e.1)) else(some (c.1,c.2.1,c.2.2.1,e.1))):Option (Int×Int×Bool×(List Int))).bind λh=>
  (ck (c.2.2.2.2+1)).bind λl=>
  cY k x8 j n (h.1,h.2.1,h.2.2.1,h.2.2.2,l)) else(some (c.1,c.2.1,c.2.2.1,c.2.2.2.1))
def dw(k:Nat)(x8:(List (List (List Int))))(j:(List (List Int)))(h:Int)(e:Int×Int×Bool×(List Int)):Nat->Int->Option (Except Bool Unit)
 |0,_=>none
 |n+1,c=>
  if c < (e.2.2.2.length:Int) then((((aJ e.2.2.2 c).bind λx=>
  if x=0 then(some 2) else((aJ e.2.2.2 c).bind λu=>
  if u=(x8.length:Int) then(some 1) else(some 3))):Option (Int)).bind λy=>
  (aJ j c).bind λs=>
  (aJ s h).bind λr=>
  if¬(r=y) then(some (.error false)) else((ck (c+1)).bind λl=>
  dw k x8 j h e n l)) else(some (.ok ()))
def cZ(k:Nat)(r3:ae×bM)(r5:(List (List Int))×Int)(x8:(List (List (List Int))))(r:(List (List Int))):Nat->Int->Option (Except Bool Unit)
 |0,_=>none
 |n+1,j=>
  ((if j < r3.1.1 then(some (decide (0 < (r5.1.length:Int)))) else(some false)):Option (Bool)).bind λx=>
  if x=true then(bE (α:=Unit) ((ck ((r3.1.2.2.2.2.1.length:Int)+1)).bind λl=>
  (cN (0≤l/\bP (Int.toNat l))).bind λ_=>
  ((cY k x8 j k (99,(-1:Int),false,List.replicate (Int.toNat l) 0,0)):Option (Int×Int×Bool×(List Int))).bind λc=>
  bE (α:=Unit) (dw k x8 r j c k 0) (λe=>some (.error e)) λ_=>
  (kV k r3.1 j).bind λh=>
  ((if c.2.2.1=true then(if¬(h.2=0) then(some true) else(if¬(h.1=(c.1,c.2.1)) then(some true) else(if¬(c.2.2.1=true) then(if¬(h.2=11) then(some true) else(some (!decide (h.1=(0,0))))) else(some false)))) else(if¬(c.2.2.1=true) then(if¬(h.2=11) then(some true) else(some (!decide (h.1=(0,0))))) else(some false))):Option (Bool)).bind λu=>
  if u=true then(some (.error false)) else(some (.ok ()))) (λe=>some (.error e)) λ_=>
  (ck (j+1)).bind λs=>
  cZ k r3 r5 x8 r n s) else(some (.ok ()))
def jE(k:Nat)(a0:(List Int)):Option Bool:=
 (lZ k a0).bind λr1=>
 (gi k (r1.1,r1.2.1,r1.2.2) 4 4).bind λr3=>
 (iy k r3.1).bind λr5=>
 ((if¬(r5.2=0) then(some true) else(some (decide (32 < (r5.1.length:Int))))):Option (Bool)).bind λx6=>
 if x6=true then(some false) else(bE (α:=(List (List (List Int)))) (c6 k r3 r5 k (([]:(List (List (List Int)))),0)) (some) λx8=>
 bE (α:=(List (List Int))) (bV k r3 r5 k (([]:(List (List Int))),0)) (some) λc=>
 bE (α:=Unit) (cZ k r3 r5 x8 c k 0) (some) λ_=>
 (qZ k).bind λe=>
 some e)
theorem sx(k:Nat)(a0:(List Int))(r:Bool)(h:jE k a0=some r):
 bZ (dW Tryz.prog) 3 [.rep Tl a0] [] (λ_:Unit=>(bL [.eq (.bool r)],[])):=by
 unfold jE at h
 replace h:=bo h
 refine bZ.of 218 Tryz.func3 rfl Tryz.ntmps3 rfl λS w0=>?_
 refine sr ?_
 refine cq ?_
 refine nt ?_
 refine sr ?_
 refine mq ?_
 obtain⟨r1,V0,h⟩:=aa h
 have V4:=uB k a0 r1 V0
 refine aX rfl rfl rfl (aA [.tmp 25] rfl rfl TX rfl V4) ⟨rfl,trivial⟩ λb2=>?_
 obtain⟨r3,VZ,h⟩:=aa h
 have V3:=sC k (r1.1,r1.2.1,r1.2.2) b2 4 4 r3 VZ
 refine kc (aA [.tmp 26,.const (.int .i64 (4)),.const (.int .i64 (4))] rfl rfl UE rfl V3) ?_
 refine aX rfl rfl rfl (bg rfl yD E6) trivial λb4=>?_
 refine aM rfl rfl (aL rfl hJ rfl rfl rfl) ⟨rfl,rfl,trivial⟩ ?_
 refine nt ?_
 refine sr ?_
 refine lo hJ ?_
 obtain⟨r5,VY,h⟩:=aa h
 have V2:=pG k r3.1 r5 VY
 refine ja (aV [.tmp 29] rfl rfl Rj rfl V2) ?_
 refine mq ?_
 refine xr ?_
 refine xr ?_
 refine aq ?_
 refine aq ?_
 refine nt ?_
 refine ak ?_
 refine aD (Z:=Unit) (α:=Bool) (λz7 x6=>[(3,Pt b4),(4,.rep (.slice Tl) r5.1),(39,.eq (.bool x6))]) (λz7 x6=>[.obj b4 26 (.rep ao r3.1)]) h (λK h=>?_) (λz7 x6 h=>?_)
 .
  refine ab (mq ?_);refine jb (dZ rfl) ?_;refine mq ?_;refine ce (s:=35) rfl (λhb=>?_) (λhb=>?_)
  .replace h:=eM (Nc hb) h;iterate 3 refine gn ?_
   refine pt (nl ?_);exact jz ((),true) h [0]
  .replace h:=cV (zw hb) h;refine gm ?_;refine ga (pC rfl rfl qx) ?_;refine gb (lT rfl) ?_;refine pf (nl ?_);exact jz ((),decide (32 < (r5.1.length:Int))) h [0]
 .
  refine cv h (λh=>?_) (λh=>?_)
  .refine sr (cq (nt (rx ?_)));cases h;exact ra
  .refine sk (sr (cq (nt ?_)));refine dx (Z:=Value) (α:=(List (List (List Int)))) (λz9 x8=>[(3,Pt b4),(4,.rep (.slice Tl) r5.1),(6,.eq z9)]) (λz9 x8=>[.obj b4 26 (.rep ao r3.1),.sl z9 30 (.slice Tl) x8]) (λe=>e=r) h (λe h=>Option.some.inj h) (λK hR h=>?_) (λz9 x8 h=>?_)
   .refine sr (cq (nt (aj ?_)));refine iL (SE.nil 30 (.slice Tl)) ?_;refine aF (λX Q=>[(3,Pt b4),(4,.rep (.slice Tl) r5.1),(6,.eq X),(7,I Q.2)]) (λX Q=>[.obj b4 26 (.rep ao r3.1),.sl X 30 (.slice Tl) Q.1]) (c6 k r3 r5) k (.slice none 0 0) (([]:(List (List (List Int)))),0) (λ_=>rfl) h (SE.fin [1,0] ⟨rfl,rfl,rfl,rfl,trivial⟩ rfl) (λn X Q h=>?_);unfold c6 at h;refine ak (sr ?_);iterate 2 refine mq ?_
    refine ol qx ?_;refine jb (bK rfl) ?_;refine nt (ci h (λh=>?_) (λh=>?_))
    .refine sk (ak (aj (ak (c9 ?_))));refine ea 0 (av rfl hJ (qR) rfl) ?_;refine dm ?_;refine dm ?_;obtain⟨VT,VD,h⟩:=aa h;refine db (bj (t:=Tl) rfl qx iQ VD) ?_;refine da (au (t:=Tl) rfl iQ rfl) ?_;obtain⟨qt,VK,h⟩:=aa h;refine db (aV [.tmp 47,.tmp 51] rfl rfl Re rfl (pE k r3.1 VT qt VK)) ?_;refine dm ?_;refine da (jk rfl rfl) ?_;refine da (jk rfl rfl) ?_;refine da (nZ rfl) ?_;refine df eO ?_;refine aq (nt (ak ?_));refine aD (Z:=Unit) (α:=Bool) (λVm UZ=>[(3,Pt b4),(4,.rep (.slice Tl) r5.1),(6,.eq X),(7,I Q.2),(8,.rep (.slice Tl) qt.1),(62,.eq (.bool UZ))]) (λVm UZ=>[.obj b4 26 (.rep ao r3.1),.sl X 30 (.slice Tl) Q.1]) h (λK h=>?_) (λVm UZ h=>?_)
     .refine ab (mq ?_);refine jb (dZ rfl) ?_;refine mq ?_;refine ce (s:=57) rfl (λhb=>?_) (λhb=>?_)
      .replace h:=eM (Nc hb) h;iterate 4 refine gn ?_
       refine pt (nl ?_);exact jz ((),true) h [0,1]
      .replace h:=cV (zw hb) h;refine jv rfl rfl rfl rfl rfl rfl (av rfl hJ (qR) rfl) ⟨rfl,trivial⟩ ?_;refine gm ?_;obtain⟨Vr,VJ,h⟩:=aa h;refine gb (aA [.tmp 58,.tmp 59] rfl rfl TW rfl (xO k r3.1 qt.1 Vr VJ)) ?_;refine ga (iE rfl) ?_;refine pf (nl ?_);exact jz ((), !Vr) h [0,1]
     .refine cv h (λh=>?_) (λh=>?_)
      .refine sr (cq (nt (rx (br (aZ (aU ?_))))));obtain rfl:=hR _ h;exact ra
      .refine sk (ab ?_);iterate 2 refine mq ?_
       refine ja (bb (t:=(.slice Tl)) [(.tmp 64,_)] [qt.1] rfl rfl xh (.cons rfl .rep .nil) rfl rfl) ?_;obtain⟨Wj,VF,h⟩:=aa h;refine fr 1 ?_;refine er rfl rfl rfl (cI rfl rfl xh (am VF)) ⟨rfl,rfl,trivial⟩ λVV=>?_;refine aq (aC (aN (tn (ab ?_))));refine mq ?_;obtain⟨VS,VC,h⟩:=aa h;refine jb (bh rfl VC) ?_;refine aq (nl ?_);exact jz (VV,(Q.1++[qt.1],VS)) h [1,0]
    .refine xa ?_;exact jz (X,Q.1) h [0,1]
   .refine sr (cq (nt ?_));refine dx (Z:=Value) (α:=(List (List Int))) (λj D=>[(3,Pt b4),(4,.rep (.slice Tl) r5.1),(6,.eq z9),(10,.eq j)]) (λj D=>[.obj b4 26 (.rep ao r3.1),.sl z9 30 (.slice Tl) x8,.sl j 22 Tl D]) (λe=>e=r) h (λe h=>Option.some.inj h) (λK hR h=>?_) (λj D h=>?_)
    .refine sr (cq (nt (aj ?_)));refine iL (SE.nil 22 Tl) ?_;refine aF (λO J=>[(3,Pt b4),(4,.rep (.slice Tl) r5.1),(6,.eq z9),(10,.eq O),(11,I J.2)]) (λO J=>[.obj b4 26 (.rep ao r3.1),.sl z9 30 (.slice Tl) x8,.sl O 22 Tl J.1]) (bV k r3 r5) k (.slice none 0 0) (([]:(List (List Int))),0) (λ_=>rfl) h (SE.fin [1,2,0] ⟨rfl,rfl,rfl,rfl,rfl,trivial⟩ rfl) (λn O J h=>?_);unfold bV at h;refine ak (sr (mq ?_));refine fl eh ?_;refine lo kD ?_;refine ol vl ?_;refine jb (zi rfl) ?_;refine nt (ci h (λh=>?_) (λh=>?_))
     .refine sk (dx (Z:=Value) (α:=(List (List Int))) (λmc zz=>[(3,Pt b4),(4,.rep (.slice Tl) r5.1),(6,.eq z9),(10,.eq mc),(11,I J.2)]) (λmc zz=>[.obj b4 26 (.rep ao r3.1),.sl z9 30 (.slice Tl) x8,.sl mc 22 Tl zz]) (λe=>e=r) h (λe h=>hR e h) (λK hR h=>?_) (λmc zz h=>?_))
      .refine aj (sr (lo hJ ?_));refine mq ?_;obtain⟨mw,VI,h⟩:=aa h;refine jb (aV [.tmp 75,.tmp 76] rfl rfl TV rfl (xH k r3.1 J.2 mw VI)) ?_;refine mq ?_;refine xr ?_;refine xr ?_;refine aq ?_;refine aq (nt (ak (sr ?_)));refine mq ?_;refine ol qx ?_;refine jb (fH rfl) ?_;refine nt (ci h (λh=>?_) (λh=>?_))
       .refine ak (sr (mq ?_));refine jb (dZ rfl) ?_;refine nt (cn h (λh=>?_) (λh=>?_))
        .refine sr (cq (nt (rx (aU (br (aZ (aU ?_)))))));obtain rfl:=hR _ h;exact ra
        .refine sk (eu (bv (cH (an ?_))));exact jz (O,J.1) h [0,1,2]
       .refine sk (ak (aD (Z:=Unit) (α:=Bool) (λVl UY=>[(3,Pt b4),(4,.rep (.slice Tl) r5.1),(6,.eq z9),(10,.eq O),(11,I J.2),(12,.rep Tl mw.1),(93,.eq (.bool UY))]) (λVl UY=>[.obj b4 26 (.rep ao r3.1),.sl z9 30 (.slice Tl) x8,.sl O 22 Tl J.1]) h (λK h=>?_) (λVl UY h=>?_)))
        .refine ab (mq ?_);refine jb (dZ rfl) ?_;refine mq ?_;refine ce (s:=87) rfl (λhb=>?_) (λhb=>?_)
         .replace h:=eM (Nc hb) h;iterate 5 refine gn ?_
          refine pt (nl ?_);exact jz ((),true) h [0,1,2]
         .replace h:=cV (zw hb) h;refine gm ?_;refine ga (pC rfl rfl iK) ?_;refine ga (aH rfl gp) ?_;refine jv rfl rfl rfl rfl rfl rfl (av rfl cM pr rfl) ⟨rfl,trivial⟩ ?_;refine gb (dZ rfl) ?_;refine pf (nl ?_);exact jz ((), !decide ((mw.1.length:Int)=r3.1.1)) h [0,1,2]
        .refine cv h (λh=>?_) (λh=>?_)
         .refine sr (cq (nt (rx (br (aZ (aU ?_))))));obtain rfl:=hR _ h;exact ra
         .refine sk (ab ?_);iterate 2 refine mq ?_
          refine ja (bb (t:=Tl) [(.tmp 95,_)] [mw.1] rfl rfl nE (.cons rfl .rep .nil) rfl rfl) ?_;obtain⟨Wi,VE,h⟩:=aa h;refine fr 2 ?_;refine er rfl rfl rfl (cI rfl rfl nE (am VE)) ⟨rfl,rfl,trivial⟩ λVU=>?_;refine aq (aC (bn ?_));exact jz (VU,J.1++[mw.1]) h [1,2,0]
      .refine ab (mq ?_);obtain⟨VQ,VB,h⟩:=aa h;refine jb (bh rfl VB) ?_;refine aq (nl ?_);exact jz (mc,(zz,VQ)) h [0,1,2]
     .refine xa ?_;exact jz (O,J.1) h [0,1,2]
    .refine dx (Z:=Unit) (α:=Unit) (λVk Vq=>[]) (λVk Vq=>[]) (λe=>e=r) h (λe h=>Option.some.inj h) (λK hR h=>?_) (λVk Vq h=>?_)
     .refine sr (cq (nt (aj ?_)));refine aF (λVj u=>[(3,Pt b4),(4,.rep (.slice Tl) r5.1),(6,.eq z9),(10,.eq j),(14,I u)]) (λVj u=>[.obj b4 26 (.rep ao r3.1),.sl z9 30 (.slice Tl) x8,.sl j 22 Tl D]) (cZ k r3 r5 x8 D) k () 0 (λ_=>rfl) h (SE.fin [0,1,2] ⟨rfl,rfl,rfl,rfl,rfl,trivial⟩ rfl) (λn Vj u h=>?_);unfold cZ at h;refine ak (aD (Z:=Unit) (α:=Bool) (λVi UX=>[(3,Pt b4),(4,.rep (.slice Tl) r5.1),(6,.eq z9),(10,.eq j),(14,I u),(106,.eq (.bool UX))]) (λVi UX=>[.obj b4 26 (.rep ao r3.1),.sl z9 30 (.slice Tl) x8,.sl j 22 Tl D]) h (λK h=>?_) (λVi UX h=>?_))
      .refine ab (mq ?_);refine fl gp ?_;refine lo cM ?_;refine jb (bK rfl) ?_;refine mq ?_;refine ce (s:=102) rfl (λhb=>?_) (λhb=>?_)
       .replace h:=eM (vJ hb) h;refine gm ?_;refine ga (pC rfl rfl qx) ?_;refine gb (lT rfl) ?_;refine pt (nl ?_);exact jz ((),decide (0 < (r5.1.length:Int))) h [0,1,2]
       .replace h:=cV (vK hb) h;iterate 3 refine gn ?_
        refine pf (nl ?_);exact jz ((),false) h [0,1,2]
      .refine cv h (λh=>?_) (λh=>?_)
       .refine sk (dx (Z:=Unit) (α:=Unit) (λVh Vp=>[(3,Pt b4),(4,.rep (.slice Tl) r5.1),(6,.eq z9),(10,.eq j),(14,I u)]) (λVh Vp=>[.obj b4 26 (.rep ao r3.1),.sl z9 30 (.slice Tl) x8,.sl j 22 Tl D]) (λe=>e=r) h (λe h=>hR e h) (λK hR h=>?_) (λVh Vp h=>?_))
        .refine aj (sr (jb (dq [(0,.const (.int .i64 (99)),_),(1,.const (.int .i64 (-1)),_)] rfl xu rL rA (hP ⟨rfl,rfl,trivial⟩) rfl) ?_));refine aX rfl rfl rfl (bg rfl rL LQ) trivial λE=>?_;refine aM rfl rfl (aL rfl nQ trivial rfl rfl) ⟨rfl,rfl,trivial⟩ ?_;refine cq (nt (sr ?_));refine fl eh ?_;refine fr 1 ?_;refine lo kD ?_;refine ol vl ?_;obtain⟨VP,VA,h⟩:=aa h;refine jb (bh rfl VA) ?_;obtain⟨Wh,UU,h⟩:=aa h;refine aX rfl rfl rfl (G8 (t:=Ti) (d:=0) rfl dT Ux (am UU).1 (am UU).2) ⟨rfl,rfl,trivial⟩ λF=>?_;refine aq (nt ?_);refine aD (Z:=Unit) (α:=Int×Int×Bool×(List Int)) (λVg l=>[(3,Pt b4),(4,.rep (.slice Tl) r5.1),(6,.eq z9),(10,.eq j),(14,I u),(15,Pt E),(16,.eq (.bool l.2.2.1)),(17,.eq F)]) (λVg l=>[.obj b4 26 (.rep ao r3.1),.sl z9 30 (.slice Tl) x8,.sl j 22 Tl D,.obj E 39 (.agg (.pair (I l.1) (I l.2.1))),.sl F 3 Ti l.2.2.2]) h (λK h=>?_) (λVg l h=>?_)
         .refine sr (cq (nt (aj ?_)));refine aF (λVf c=>[(3,Pt b4),(4,.rep (.slice Tl) r5.1),(6,.eq z9),(10,.eq j),(14,I u),(15,Pt E),(16,.eq (.bool c.2.2.1)),(17,.eq F),(18,I c.2.2.2.2)]) (λVf c=>[.obj b4 26 (.rep ao r3.1),.sl z9 30 (.slice Tl) x8,.sl j 22 Tl D,.obj E 39 (.agg (.pair (I c.1) (I c.2.1))),.sl F 3 Ti c.2.2.2.1]) (cY k x8 u) k () (99,(-1:Int),false,List.replicate (Int.toNat VP) 0,0) (λ_=>rfl) h (SE.fin [1,3,4,2,0] ⟨rfl,rfl,rfl,rfl,rfl,rfl,rfl,rfl,rfl,trivial⟩ rfl) (λn Vf c h=>?_);unfold cY at h;refine ak (sr ?_);iterate 2 refine mq ?_
          refine fr 1 ?_;refine ka (iF rfl rfl vl) ?_;refine jb (bK rfl) ?_;refine nt (ci h (λh=>?_) (λh=>?_))
          .refine sk (aD (Z:=Unit) (α:=Int×Int×Bool×(List Int)) (λVe M=>[(3,Pt b4),(4,.rep (.slice Tl) r5.1),(6,.eq z9),(10,.eq j),(14,I u),(15,Pt E),(16,.eq (.bool M.2.2.1)),(17,.eq F),(18,I c.2.2.2.2)]) (λVe M=>[.obj b4 26 (.rep ao r3.1),.sl z9 30 (.slice Tl) x8,.sl j 22 Tl D,.obj E 39 (.agg (.pair (I M.1) (I M.2.1))),.sl F 3 Ti M.2.2.2]) h (λK h=>?_) (λVe M h=>?_))
           .refine aj (sr (cq (nt ?_)));refine aD (Z:=Unit) (α:=(List Int)×Int) (λVb U=>[(3,Pt b4),(4,.rep (.slice Tl) r5.1),(6,.eq z9),(10,.eq j),(14,I u),(15,Pt E),(16,.eq (.bool c.2.2.1)),(17,.eq F),(18,I c.2.2.2.2),(19,I U.2)]) (λVb U=>[.obj b4 26 (.rep ao r3.1),.sl z9 30 (.slice Tl) x8,.sl j 22 Tl D,.obj E 39 (.agg (.pair (I c.1) (I c.2.1))),.sl F 3 Ti U.1]) h (λK h=>?_) (λVb U h=>?_)
            .refine sr (cq (nt (aj ?_)));refine aF (λVa y=>[(3,Pt b4),(4,.rep (.slice Tl) r5.1),(6,.eq z9),(10,.eq j),(14,I u),(15,Pt E),(16,.eq (.bool c.2.2.1)),(17,.eq F),(18,I c.2.2.2.2),(19,I y.2.1),(20,I y.2.2)]) (λVa y=>[.obj b4 26 (.rep ao r3.1),.sl z9 30 (.slice Tl) x8,.sl j 22 Tl D,.obj E 39 (.agg (.pair (I c.1) (I c.2.1))),.sl F 3 Ti y.1]) (cJ k x8 u c) k () (c.2.2.2.1,(-1:Int),0) (λ_=>rfl) h (SE.fin [1,0,2,3,4] ⟨rfl,rfl,rfl,rfl,rfl,rfl,rfl,rfl,rfl,rfl,rfl,trivial⟩ rfl) (λn Va y h=>?_);unfold cJ at h;refine ak (sr ?_);iterate 3 refine mq ?_
             obtain⟨Wg,UT,h⟩:=aa h;refine fr 1 ?_;refine kb (bq (t:=(.slice Tl)) rfl vl te UT) ?_;refine ka (dI (i:=Int.toNat c.2.2.2.2) (off:=0) rfl te (λ_=>rfl) rfl (cL UT).2.2 rfl) ?_;refine ol qx ?_;refine jb (bK rfl) ?_;refine nt (ci h (λh=>?_) (λh=>?_))
             .refine sk (aD (Z:=Unit) (α:=(List Int)×Int) (λU8 gw=>[(3,Pt b4),(4,.rep (.slice Tl) r5.1),(6,.eq z9),(10,.eq j),(14,I u),(15,Pt E),(16,.eq (.bool c.2.2.1)),(17,.eq F),(18,I c.2.2.2.2),(19,I gw.2),(20,I y.2.2)]) (λU8 gw=>[.obj b4 26 (.rep ao r3.1),.sl z9 30 (.slice Tl) x8,.sl j 22 Tl D,.obj E 39 (.agg (.pair (I c.1) (I c.2.1))),.sl F 3 Ti gw.1]) h (λK h=>?_) (λU8 gw h=>?_))
              .refine aj (sr ?_);iterate 2 refine mq ?_
               obtain⟨We,US,h⟩:=aa h;refine kb (bq (t:=(.slice Tl)) rfl vl te US) ?_;refine ka (dI (i:=Int.toNat c.2.2.2.2) (off:=0) rfl te (λ_=>rfl) rfl (cL US).2.2 rfl) ?_;refine mq ?_;obtain⟨Wc,Vz,h⟩:=aa h;refine jb (bj (t:=Tl) rfl qx iQ Vz) ?_;refine ja (au (t:=Tl) rfl iQ rfl) ?_;refine mq ?_;obtain⟨Wb,Vy,h⟩:=aa h;refine jb (bj (t:=Ti) rfl iK cM Vy) ?_;refine ja (au (t:=Ti) rfl cM rfl) ?_;refine jb (jh rfl) ?_;refine nt (ci h (λh=>?_) (λh=>?_))
               .refine sr ?_;iterate 2 refine mq ?_
                obtain⟨Wa,UR,h⟩:=aa h;refine fr 4 ?_;refine kb (bq (t:=Ti) rfl iK cM UR) ?_;refine ka (dI (i:=Int.toNat y.2.2) (off:=0) rfl cM (λ_=>rfl) rfl (cL UR).2.2 rfl) ?_;obtain⟨Vo,Vx,h⟩:=aa h;refine jb (bh rfl Vx) ?_;obtain⟨V9,UQ,h⟩:=aa h;refine kb (bq (t:=Ti) rfl iK cM UQ) ?_;refine aM rfl rfl (fG (i:=Int.toNat y.2.2) rfl cM rfl (l7 UQ) rfl .int rfl) ⟨rfl,rfl,trivial⟩ ?_;refine nt (sr (mq ?_));refine jb (bK rfl) ?_;refine nt (ci h (λh=>?_) (λh=>?_))
                .refine ab (mq ?_);refine aq (aC (bn ?_));exact jz ((),(List.set y.1 (Int.toNat y.2.2) Vo,y.2.2)) h [2,1,3,4,0]
                .refine aY (bn ?_);exact jz ((),(List.set y.1 (Int.toNat y.2.2) Vo,y.2.1)) h [2,1,3,4,0]
               .refine aY (bn ?_);exact jz ((),(y.1,y.2.1)) h [1,0,2,3,4]
              .refine ab (mq ?_);obtain⟨VO,Vw,h⟩:=aa h;refine jb (bh rfl Vw) ?_;refine aq (nl ?_);exact jz ((),(gw.1,gw.2,VO)) h [0,1,2,3,4]
             .refine xa ?_;exact jz ((),(y.1,y.2.1)) h [1,0,2,3,4]
            .refine sr (mq ?_);refine jb (jh rfl) ?_;refine nt (ci h (λh=>?_) (λh=>?_))
             .refine ab (fl OR ?_);refine fr 3 ?_;refine lo cM ?_;refine mq ?_;refine jb (Nb rfl rfl) ?_;refine fl OQ ?_;refine lo cM ?_;refine mq ?_;refine jb (CL rfl rfl) ?_;refine jb (dq [(0,.tmp 155,_),(1,.tmp 159,_)] rfl xu rL rA (hP ⟨rfl,rfl,trivial⟩) rfl) ?_;refine aM rfl rfl (aL rfl nQ trivial rfl rfl) ⟨rfl,rfl,trivial⟩ ?_;refine cq (aC (bn ?_));exact jz ((),(pu c.1 U.2,kK c.2.1 U.2,true,U.1)) h [1,2,3,0,4]
             .refine aY (bn ?_);exact jz ((),(c.1,c.2.1,c.2.2.1,U.1)) h [0,1,2,3,4]
           .refine ab (mq ?_);obtain⟨VN,Vv,h⟩:=aa h;refine jb (bh rfl Vv) ?_;refine aq (nl ?_);exact jz ((),(M.1,M.2.1,M.2.2.1,M.2.2.2,VN)) h [0,1,2,3,4]
          .refine xa ?_;exact jz ((),(c.1,c.2.1,c.2.2.1,c.2.2.2.1)) h [1,0,2,3,4]
         .refine dx (Z:=Unit) (α:=Unit) (λU7 Vn=>[(3,Pt b4),(4,.rep (.slice Tl) r5.1),(6,.eq z9),(10,.eq j),(14,I u),(15,Pt E),(16,.eq (.bool l.2.2.1))]) (λU7 Vn=>[.obj b4 26 (.rep ao r3.1),.sl z9 30 (.slice Tl) x8,.sl j 22 Tl D,.obj E 39 (.agg (.pair (I l.1) (I l.2.1)))]) (λe=>e=r) h (λe h=>hR e h) (λK hR h=>?_) (λU7 Vn h=>?_)
          .refine sr (cq (nt (aj ?_)));refine aF (λU6 Y=>[(3,Pt b4),(4,.rep (.slice Tl) r5.1),(6,.eq z9),(10,.eq j),(14,I u),(15,Pt E),(16,.eq (.bool l.2.2.1)),(17,.eq F),(21,I Y)]) (λU6 Y=>[.obj b4 26 (.rep ao r3.1),.sl z9 30 (.slice Tl) x8,.sl j 22 Tl D,.obj E 39 (.agg (.pair (I l.1) (I l.2.1))),.sl F 3 Ti l.2.2.2]) (dw k x8 D u l) k () 0 (λ_=>rfl) h (SE.fin [0,1,2,3,4] ⟨rfl,rfl,rfl,rfl,rfl,rfl,rfl,rfl,rfl,trivial⟩ rfl) (λn U6 Y h=>?_);unfold dw at h;refine ak (sr ?_);iterate 2 refine mq ?_
           refine fr 4 ?_;refine ka (iF rfl rfl iK) ?_;refine jb (bK rfl) ?_;refine nt (ci h (λh=>?_) (λh=>?_))
           .refine sk (ak (aj (sr (cq (nt ?_)))));refine aD (Z:=Unit) (α:=Int) (λU2 UW=>[(3,Pt b4),(4,.rep (.slice Tl) r5.1),(6,.eq z9),(10,.eq j),(14,I u),(15,Pt E),(16,.eq (.bool l.2.2.1)),(17,.eq F),(21,I Y),(22,I UW)]) (λU2 UW=>[.obj b4 26 (.rep ao r3.1),.sl z9 30 (.slice Tl) x8,.sl j 22 Tl D,.obj E 39 (.agg (.pair (I l.1) (I l.2.1))),.sl F 3 Ti l.2.2.2]) h (λK h=>?_) (λU2 UW h=>?_)
            .refine sr ?_;iterate 2 refine mq ?_
             obtain⟨V8,UP,h⟩:=aa h;refine kb (bq (t:=Ti) rfl iK cM UP) ?_;refine ka (dI (i:=Int.toNat Y) (off:=0) rfl cM (λ_=>rfl) rfl (cL UP).2.2 rfl) ?_;refine jb (fH rfl) ?_;refine nt (ci h (λh=>?_) (λh=>?_))
             .refine ab (cq (nl ?_));exact jz ((),2) h [1,2,3,4,0]
             .refine sr ?_;iterate 2 refine mq ?_
              obtain⟨V7,UO,h⟩:=aa h;refine kb (bq (t:=Ti) rfl iK cM UO) ?_;refine ka (dI (i:=Int.toNat Y) (off:=0) rfl cM (λ_=>rfl) rfl (cL UO).2.2 rfl) ?_;refine mq ?_;refine fr 2 ?_;refine ka (iF rfl rfl vl) ?_;refine jb (fH rfl) ?_;refine nt (ci h (λh=>?_) (λh=>?_))
              .refine ab (cq (nl ?_));exact jz ((),1) h [2,0,3,4,1]
              .refine aY (an ?_);exact jz ((),3) h [2,0,3,4,1]
            .refine sr ?_;iterate 2 refine mq ?_
             obtain⟨V6,UN,h⟩:=aa h;refine fr 2 ?_;refine kb (bq (t:=Tl) rfl qx iQ UN) ?_;refine ka (dI (i:=Int.toNat Y) (off:=0) rfl iQ (λ_=>rfl) rfl (cL UN).2.2 rfl) ?_;refine mq ?_;obtain⟨V5,Vu,h⟩:=aa h;refine jb (bj (t:=Ti) rfl iK cM Vu) ?_;refine ja (au (t:=Ti) rfl cM rfl) ?_;refine mq ?_;refine jb (dZ rfl) ?_;refine nt (cn h (λh=>?_) (λh=>?_))
             .refine sr (cq (nt (ay (br (aZ (aU (br (aZ (aU ?_)))))))));obtain rfl:=hR _ h;exact ra
             .refine aY (aN (tn (ab (mq ?_))));obtain⟨VM,Vt,h⟩:=aa h;refine jb (bh rfl Vt) ?_;refine aq (nl ?_);exact jz ((),VM) h [1,2,0,3,4]
           .refine xa ?_;exact jz ((),()) h [1,2,3,4]
          .refine sr (lo hJ ?_);refine mq ?_;obtain⟨U0,VH,h⟩:=aa h;refine jb (aV [.tmp 189,.tmp 190] rfl rfl Q9 rfl (qW k r3.1 u U0 VH)) ?_;refine mq ?_;refine xr ?_;refine xr ?_;refine aX rfl rfl rfl (bg rfl rL LQ) trivial λWm=>?_;refine aM rfl rfl (aL rfl nQ rfl rfl rfl) ⟨rfl,rfl,trivial⟩ ?_;refine aq (nt ?_);refine aD (Z:=Unit) (α:=Bool) (λU1 UV=>[(3,Pt b4),(4,.rep (.slice Tl) r5.1),(6,.eq z9),(10,.eq j),(14,I u),(216,.eq (.bool UV))]) (λU1 UV=>[.obj b4 26 (.rep ao r3.1),.sl z9 30 (.slice Tl) x8,.sl j 22 Tl D]) h (λK h=>?_) (λU1 UV h=>?_)
           .refine ab ?_;iterate 2 refine mq ?_
            refine ce (s:=195) rfl (λhb=>?_) (λhb=>?_)
            .replace h:=eM (MV hb) h;refine gm ?_;refine gb (dZ rfl) ?_;refine gm ?_;refine ce (s:=198) rfl (λhb=>?_) (λhb=>?_)
             .replace h:=eM (Nc hb) h;iterate 3 refine gn ?_
              refine gb (jJ rfl) ?_;refine pt ?_;refine mq ?_;iterate 3 refine gn ?_
              refine gu ?_;refine gu ?_;refine gu ?_;refine gu ?_;refine gu ?_;refine gu ?_;refine gu ?_;refine gn ?_;refine pt (nl ?_);exact jz ((),true) h [1,2,3]
             .replace h:=cV (zw hb) h;refine jv rfl rfl rfl rfl rfl rfl (av rfl nQ (qR) rfl) ⟨rfl,trivial⟩ ?_;refine fr 4 ?_;refine jv rfl rfl rfl rfl rfl rfl (av rfl nQ (qR) rfl) ⟨rfl,trivial⟩ ?_;refine eB (dV (t:=bD) (x:=(l.1,l.2.1)) 200 rfl (.agg (.pair .int .int)) trivial rfl) ?_;refine gb (xA rfl Lm rfl) ?_;refine gb (mB rfl) ?_;refine pt ?_;refine mq ?_;refine ce (s:=204) rfl (λhb=>?_) (λhb=>?_)
              .replace h:=eM (Nc hb) h;iterate 3 refine gn ?_
               refine gu ?_;refine gu ?_;refine gu ?_;refine gu ?_;refine gu ?_;refine gu ?_;refine gu ?_;refine gn ?_;refine pt (nl ?_);exact jz ((),true) h [2,3,4]
              .replace h:=cV (zw hb) h;refine gm ?_;refine ga (iE rfl) ?_;refine gm ?_;refine ce (s:=207) rfl (λhb=>?_) (λhb=>?_)
               .replace h:=eM (xC hb) h;refine gm ?_;refine gb (dZ rfl) ?_;refine gm ?_;refine ce (s:=210) rfl (λhb=>?_) (λhb=>?_)
                .replace h:=eM (Nc hb) h;iterate 3 refine gn ?_
                 refine gb (jJ rfl) ?_;refine gb (jJ rfl) ?_;refine pf (nl ?_);exact jz ((),true) h [2,3,4]
                .replace h:=cV (zw hb) h;refine fr 1 ?_;refine jv rfl rfl rfl rfl rfl rfl (av rfl nQ (qR) rfl) ⟨rfl,trivial⟩ ?_;refine kx rfl rfl rfl rfl rfl rfl (dq [] rfl xu rL rA (hP trivial) rfl) trivial ?_;refine eB (dV (t:=bD) (x:=(0,0)) 212 rfl (.agg (.pair .int .int)) trivial rfl) ?_;refine gb (xA rfl Lm rfl) ?_;refine gb (mB rfl) ?_;refine gb (jJ rfl) ?_;refine pf (nl ?_);exact jz ((), !decide (U0.1=(0,0))) h [2,3,4]
               .replace h:=cV (qN hb) h;iterate 3 refine gn ?_
                refine gu ?_;refine gu ?_;refine gu ?_;refine gn ?_;refine gb (mB rfl) ?_;refine pf (nl ?_);exact jz ((),false) h [2,3,4]
            .replace h:=cV (MY hb) h;iterate 3 refine gn ?_
             refine gu ?_;refine gu ?_;refine gu ?_;refine gn ?_;refine pf ?_;refine mq ?_;refine gm ?_;refine ga (iE rfl) ?_;refine gm ?_;refine ce (s:=207) rfl (λhb=>?_) (λhb=>?_)
             .replace h:=eM (xC hb) h;refine gm ?_;refine gb (dZ rfl) ?_;refine gm ?_;refine ce (s:=210) rfl (λhb=>?_) (λhb=>?_)
              .replace h:=eM (Nc hb) h;iterate 3 refine gn ?_
               refine gb (jJ rfl) ?_;refine gb (jJ rfl) ?_;refine pf (nl ?_);exact jz ((),true) h [1,2,3]
              .replace h:=cV (zw hb) h;refine jv rfl rfl rfl rfl rfl rfl (av rfl nQ (qR) rfl) ⟨rfl,trivial⟩ ?_;refine kx rfl rfl rfl rfl rfl rfl (dq [] rfl xu rL rA (hP trivial) rfl) trivial ?_;refine eB (dV (t:=bD) (x:=(0,0)) 212 rfl (.agg (.pair .int .int)) trivial rfl) ?_;refine gb (xA rfl Lm rfl) ?_;refine gb (mB rfl) ?_;refine gb (jJ rfl) ?_;refine pf (nl ?_);exact jz ((), !decide (U0.1=(0,0))) h [1,2,3]
             .replace h:=cV (qN hb) h;iterate 3 refine gn ?_
              refine gu ?_;refine gu ?_;refine gu ?_;refine gn ?_;refine gb (mB rfl) ?_;refine pf (nl ?_);exact jz ((),false) h [1,2,3]
           .refine cv h (λh=>?_) (λh=>?_)
            .refine sr (cq (nt (ay (br (aZ (aU ?_))))));obtain rfl:=hR _ h;exact ra
            .refine aY (bn ?_);exact jz ((),()) h [0,1,2]
        .refine ab (mq ?_);obtain⟨VL,Vs,h⟩:=aa h;refine jb (bh rfl Vs) ?_;refine aq (nl ?_);exact jz ((),VL) h [0,1,2]
       .refine xa ?_;exact jz ((),()) h []
     .refine sr ?_;obtain⟨VX,VG,h⟩:=aa h;refine cf rfl (aV [] rfl rfl TU rfl (zJ k VX VG)) trivial ?_;refine aq (nt (ay ?_));cases h;exact ra
