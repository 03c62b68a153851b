import Derived.Test.YtcollhgigbijkaaGreatVBB10
open Nat
open List hiding mem_of_getElem?
open Array hiding mem_of_getElem? mk
set_option linter.unusedSimpArgs false
set_option linter.unusedVariables false
set_option maxRecDepth 4000
set_option maxHeartbeats 1000000
namespace Go.Proofs.YtcollhgigbijkaaGreat
open K Go Go.Proofs
def fg(k:Nat)(r4:(List Int)×bT):Nat->((List Int)×Int×Int×Int×(List (List Int)))->Option ((List Int)×Int×Int×(List (List Int)))
 |0,_=>none
 |n+1,y7=>
  if y7.2.2.2.1 < (r4.1.length:Int) then((((eX k (y7.1,y7.2.1,y7.2.2.1) 5).bind λc=>
  if c.1=true then(some (c.2.1,c.2.2.1,c.2.2.2,y7.2.2.2.2)) else((ck ((y7.2.2.2.2.length:Int) - 1)).bind λr=>
  (c8 k (c.2.1,c.2.2.1,c.2.2.2) r).bind λe=>
  (aJ y7.2.2.2.2 e.1).bind λj=>
  (aJ r4.1 y7.2.2.2.1).bind λh=>
  (cN (cu (length j+length [h]))).bind λ_=>
  some (e.2.1,e.2.2.1,e.2.2.2,List.set y7.2.2.2.2 (Int.toNat e.1) (j++[h])))):Option ((List Int)×Int×Int×(List (List Int)))).bind λx9=>
  (ck (y7.2.2.2.1+1)).bind λl=>
  fg k r4 n (x9.1,x9.2.1,x9.2.2.1,l,x9.2.2.2)) else(some (y7.1,y7.2.1,y7.2.2.1,y7.2.2.2.2))
def jC(k:Nat)(a0:bT)(a1:Int):Option ((List (List Int))×bT):=
 (fB k (a0.1,a0.2.1,a0.2.2) 1 3).bind λr1=>
 (cN (0≤r1.1/\cu (Int.toNat r1.1))).bind λ_=>
 (gk k (r1.2.1,r1.2.2.1,r1.2.2.2) a1).bind λr4=>
 ((fg k r4 k (r4.2.1,r4.2.2.1,r4.2.2.2,0,List.replicate (Int.toNat r1.1) ([]:(List Int)))):Option ((List Int)×Int×Int×(List (List Int)))).bind λx5=>
 some (x5.2.2.2,(x5.1,x5.2.1,x5.2.2.1))
theorem uj(k:Nat)(a0:bT)(c:Nat)(a1:Int)(r:(List (List Int))×bT)(h:jC k a0 a1=some r):
 dF Tryz.prog 65 [Pt c,I a1] [.obj c 69 (.agg (.pair (.rep Tl a0.1) (.pair (I a0.2.1) (.eq (.int .u64 a0.2.2)))))] (λ_:Unit=>(bJ [.rep (.slice Tl) r.1],[.obj c 69 (.agg (.pair (.rep Tl r.2.1) (.pair (I r.2.2.1) (.eq (.int .u64 r.2.2.2)))))])):=by
 unfold jC at h
 replace h:=bq h
 refine dF.of 42 Tryz.func65 rfl Tryz.ntmps65 rfl λS w0=>?_
 refine sr ?_
 refine cq ?_
 refine nt ?_
 refine sr ?_
 refine mq ?_
 obtain⟨r1,Uc,h⟩:=aa h
 have Ue:=iN k (a0.1,a0.2.1,a0.2.2) c 1 3 r1 Uc
 refine kc (av [.tmp 9,.const (.int .i64 (1)),.const (.int .i64 (3))] rfl rfl Kr rfl Ue) ?_
 obtain⟨u2,U,h⟩:=aa h
 refine bg rfl rfl rfl (Ni (t:=.val) (d:=.slice none 0 0) rfl o5 OJ (ao U).1 (ao U).2) ⟨rfl,rfl,trivial⟩ λv3=>?_
 refine eV (H9 (F:=[.obj c 69 (.agg (.pair (.rep Tl r1.2.1) (.pair (I r1.2.2.1) (.eq (.int .u64 r1.2.2.2)))))])) ?_
 refine aq ?_
 refine nt ?_
 refine sr ?_
 iterate 2 refine mq ?_
 obtain⟨r4,Ub,h⟩:=aa h
 have Ud:=qM k (r1.2.1,r1.2.2.1,r1.2.2.2) c a1 r4 Ub
 refine kb (av [.tmp 12,.tmp 13] rfl rfl RI rfl Ud) ?_
 refine aq ?_
 refine nt ?_
 refine aG (Z:=(Value×(Nat->Value))) (α:=(List Int)×Int×Int×(List (List Int))) (λz6 x5=>[(5,.eq z6.1)]) (λz6 x5=>[.obj c 69 (.agg (.pair (.rep Tl x5.1) (.pair (I x5.2.1) (.eq (.int .u64 x5.2.2.1)))))]++xd 22 z6 x5.2.2.2) h (λK h=>?_) (λz6 x5 h=>?_)
 .
  refine sr (cq (nt (aj ?_)));refine aH (Z:=(Value×(Nat->Value))) (α:=(List Int)×Int×Int×Int×(List (List Int))) (λz8 y7=>[(0,Pt c),(5,.eq z8.1),(6,.rep Tl r4.1),(7,I y7.2.2.2.1)]) (λz8 y7=>[.obj c 69 (.agg (.pair (.rep Tl y7.1) (.pair (I y7.2.1) (.eq (.int .u64 y7.2.2.1)))))]++xd 22 z8 y7.2.2.2.2) (fg k r4) k (v3,λ_=>.slice none 0 0) (r4.2.1,r4.2.2.1,r4.2.2.2,0,List.replicate (Int.toNat r1.1) ([]:(List Int))) (λ_=>rfl) h (ku [.obj c 69 (.agg (.pair (.rep Tl r4.2.1) (.pair (I r4.2.2.1) (.eq (.int .u64 r4.2.2.2)))))] (xd 22 (v3,λ_=>.slice none 0 0) (List.replicate (Int.toNat r1.1) ([]:(List Int)))) [0] ⟨rfl,rfl,rfl,rfl,trivial⟩ rfl) (λn z8 y7 h=>?_);unfold fg at h;refine ak (sr ?_);iterate 2 refine mq ?_
  refine ol fM ?_;refine jb (bA rfl) ?_;refine nt (ci h (λh=>?_) (λh=>?_))
  .refine sk (aG (Z:=(Value×(Nat->Value))) (α:=(List Int)×Int×Int×(List (List Int))) (λy x9=>[(0,Pt c),(5,.eq y.1),(6,.rep Tl r4.1),(7,I y7.2.2.2.1)]) (λy x9=>[.obj c 69 (.agg (.pair (.rep Tl x9.1) (.pair (I x9.2.1) (.eq (.int .u64 x9.2.2.1)))))]++xd 22 y x9.2.2.2) h (λK h=>?_) (λy x9 h=>?_))
   .refine aj (ak (sr (mq ?_)));obtain⟨j,mc,h⟩:=aa h;refine kb (av [.tmp 21,.const (.int .i64 (5))] rfl rfl NK rfl (jf k (y7.1,y7.2.1,y7.2.2.1) c 5 j mc)) ?_;refine nt (cv h (λh=>?_) (λh=>?_))
    .refine eW (bF (cO (an ?_)));exact uQ (z8,(j.2.1,j.2.2.1,j.2.2.2,y7.2.2.2.2)) h (ku [.obj c 69 (.agg (.pair (.rep Tl j.2.1) (.pair (I j.2.2.1) (.eq (.int .u64 j.2.2.2)))))] (xd 22 z8 y7.2.2.2.2) [0] ⟨rfl,rfl,rfl,rfl,trivial⟩ rfl)
    .refine sk (sr ?_);iterate 2 refine mq ?_
     refine Ih (pre:=[.obj c 69 (.agg (.pair (.rep Tl j.2.1) (.pair (I j.2.2.1) (.eq (.int .u64 j.2.2.2)))))]) rfl rfl rfl rfl rfl qY ⟨rfl,trivial⟩ ?_;obtain⟨qt,Q,h⟩:=aa h;refine jb (dY rfl Q) ?_;obtain⟨e,Y,h⟩:=aa h;refine kb (av [.tmp 23,.tmp 26] rfl rfl A9 rfl (dB k (j.2.1,j.2.2.1,j.2.2.2) c qt e Y)) ?_;refine aq (nt ?_);obtain⟨x,s,h⟩:=aa h;refine jN (EC (pre:=[.obj c 69 (.agg (.pair (.rep Tl e.2.1) (.pair (I e.2.2.1) (.eq (.int .u64 e.2.2.2)))))]) (Cf s).2) ?_;obtain⟨u,O,h⟩:=aa h;obtain⟨u16,X,h⟩:=aa h;refine Ik (Δ:=[.sl (z8.2 (Int.toNat e.1)) 3 Ti x,.sl z8.1 22 .val (nv z8.2 0 y7.2.2.2.2),.obj c 69 (.agg (.pair (.rep Tl e.2.1) (.pair (I e.2.2.1) (.eq (.int .u64 e.2.2.2)))))]) (F:=(nh z8.2 0 y7.2.2.2.2).eraseIdx (Int.toNat e.1)) (Z:=Value) (λi=>[(0,Pt c),(5,.eq z8.1),(6,.rep Tl r4.1),(7,I y7.2.2.2.1)]) (λi=>[.sl z8.1 22 .val (List.set (nv z8.2 0 y7.2.2.2.2) (Int.toNat e.1) i),.sl i 3 Ti (x++[u]),.obj c 69 (.agg (.pair (.rep Tl e.2.1) (.pair (I e.2.2.1) (.eq (.int .u64 e.2.2.2)))))]) (λS w=>?_) (λl=>?_)
     .refine rj ?_;refine cF rfl rfl rfl (aQ rfl) ⟨rfl,trivial⟩ ?_;refine cF rfl rfl rfl (aQ rfl) ⟨rfl,trivial⟩ ?_;refine cF rfl rfl rfl (aQ rfl) ⟨rfl,trivial⟩ ?_;refine cF rfl rfl rfl (aQ rfl) ⟨rfl,trivial⟩ ?_;refine iT 1 rfl rfl rfl rfl (cG (t:=.val) rfl qY gJ (te s)) ⟨rfl,rfl,trivial⟩ ?_;refine iT 1 rfl rfl rfl rfl (gu (i:=Int.toNat e.1) (off:=0) rfl gJ (λ_=>rfl) rfl (dD (te s)).2.2 rfl) ⟨rfl,trivial⟩ ?_;refine cF rfl rfl rfl (aQ rfl) ⟨rfl,trivial⟩ ?_;refine cF rfl rfl rfl (aQ rfl) ⟨rfl,trivial⟩ ?_;refine cF rfl rfl rfl (aI (t:=Ti) rfl fM bV O) ⟨rfl,rfl,trivial⟩ ?_;refine cF rfl rfl rfl (am (t:=Ti) rfl bV rfl) ⟨rfl,trivial⟩ ?_;refine cF rfl rfl rfl (bi (t:=Ti) [(.tmp 37,_)] [u] rfl rfl dy (.cons rfl .int .nil) rfl rfl) ⟨rfl,trivial⟩ ?_;refine Is 0 rfl (λv=>[.sl v 3 Ti (x++[u])]) (λ_=>rfl) rfl rfl rfl (cH rfl rfl dy (ao X)) ⟨rfl,rfl,trivial⟩ ?_;refine yb 12 [true,true,true,true,true,true,true,true,true,true,true,true] [40] [] [] rfl (by kernel_rfl) (by kernel_rfl) (by kernel_rfl) dN (λvs hv hB=>?_);obtain⟨w0,Us,rfl,Ua⟩:=aE hv;obtain⟨w1,Ur,rfl,T9⟩:=aE Ua;obtain⟨w2,Up,rfl,T8⟩:=aE T9;obtain⟨w3,Uo,rfl,TZ⟩:=aE T8;obtain⟨w4,Un,rfl,TY⟩:=aE TZ;obtain⟨w5,Um,rfl,TX⟩:=aE TY;obtain⟨w6,Ul,rfl,TW⟩:=aE TX;obtain⟨w7,Uk,rfl,TV⟩:=aE TW;obtain⟨w8,Uj,rfl,zz⟩:=aE TV;obtain⟨w9,Uh,rfl,J⟩:=aE zz;obtain⟨Ui,Ug,rfl,E⟩:=aE J;obtain⟨l,Uf,rfl,D⟩:=aE E;obtain rfl:=tw D;refine⟨[0,1,2],[.sl z8.1 22 .val (nv z8.2 0 y7.2.2.2.2),.obj c 69 (.agg (.pair (.rep Tl e.2.1) (.pair (I e.2.2.1) (.eq (.int .u64 e.2.2.2))))),.sl l 3 Ti (x++[u])],by kernel_rfl,by decide,?_⟩;refine Br rfl rfl rfl rfl (cG (t:=.val) rfl qY gJ (te s)) ⟨rfl,rfl,trivial⟩ (by kernel_rfl) ?_;refine uN 2 rfl ?_;refine Oj λo18=>?_;refine uN 1 rfl ?_;refine sK rfl rfl (gd (i:=Int.toNat e.1) rfl gJ rfl (mR (te s)) rfl (.val o18) o18) ⟨rfl,rfl,trivial⟩ (by kernel_rfl) ?_;refine xY ?_;refine bX (SE.fin (Γ':=[(0,Pt c),(5,.eq z8.1),(6,.rep Tl r4.1),(7,I y7.2.2.2.1)]) (Δ':=[.sl z8.1 22 .val (List.set (nv z8.2 0 y7.2.2.2.2) (Int.toNat e.1) l),.sl l 3 Ti (x++[u]),.obj c 69 (.agg (.pair (.rep Tl e.2.1) (.pair (I e.2.2.1) (.eq (.int .u64 e.2.2.2)))))]) [0,1,2] ⟨rfl,rfl,rfl,rfl,trivial⟩ rfl) ?_;exact λa w st=>⟨rfl,(l),(SE.fin (Γ':=[(0,Pt c),(5,.eq z8.1),(6,.rep Tl r4.1),(7,I y7.2.2.2.1)]) (Δ':=[.sl z8.1 22 .val (List.set (nv z8.2 0 y7.2.2.2.2) (Int.toNat e.1) l),.sl l 3 Ti (x++[u]),.obj c 69 (.agg (.pair (.rep Tl e.2.1) (.pair (I e.2.2.1) (.eq (.int .u64 e.2.2.2)))))]) [0,1,2] ⟨rfl,rfl,rfl,rfl,trivial⟩ rfl) a w st⟩
     .show JN _ _ [(0,Pt c),(5,.eq z8.1),(6,.rep Tl r4.1),(7,I y7.2.2.2.1)] ([.sl z8.1 22 .val (List.set (nv z8.2 0 y7.2.2.2.2) (Int.toNat e.1) l),.sl l 3 Ti (x++[u]),.obj c 69 (.agg (.pair (.rep Tl e.2.1) (.pair (I e.2.2.1) (.eq (.int .u64 e.2.2.2)))))]++(nh z8.2 0 y7.2.2.2.2).eraseIdx (Int.toNat e.1));refine bv 1 rfl ?_;refine bX (Bn (pre:=[.obj c 69 (.agg (.pair (.rep Tl e.2.1) (.pair (I e.2.2.1) (.eq (.int .u64 e.2.2.2)))))]) (z:=z8) (i:=Int.toNat e.1) (Cf s).2) ?_;refine bn ?_;exact uQ ((z8.1,Aq z8.2 (Int.toNat e.1) l),(e.2.1,e.2.2.1,e.2.2.2,List.set y7.2.2.2.2 (Int.toNat e.1) (x++[u]))) h (ku [.obj c 69 (.agg (.pair (.rep Tl e.2.1) (.pair (I e.2.2.1) (.eq (.int .u64 e.2.2.2)))))] (xd 22 (z8.1,Aq z8.2 (Int.toNat e.1) l) (List.set y7.2.2.2.2 (Int.toNat e.1) (x++[u]))) [0] ⟨rfl,rfl,rfl,rfl,trivial⟩ rfl)
   .refine ab (mq ?_);obtain⟨mw,M,h⟩:=aa h;refine jb (bo rfl M) ?_;refine aq (nl ?_);exact uQ (y,(x9.1,x9.2.1,x9.2.2.1,mw,x9.2.2.2)) h (ku [.obj c 69 (.agg (.pair (.rep Tl x9.1) (.pair (I x9.2.1) (.eq (.int .u64 x9.2.2.1)))))] (xd 22 y x9.2.2.2) [0] ⟨rfl,rfl,rfl,rfl,trivial⟩ rfl)
  .refine xa ?_;exact uQ (z8,(y7.1,y7.2.1,y7.2.2.1,y7.2.2.2.2)) h (ku [.obj c 69 (.agg (.pair (.rep Tl y7.1) (.pair (I y7.2.1) (.eq (.int .u64 y7.2.2.1)))))] (xd 22 z8 y7.2.2.2.2) [0] ⟨rfl,trivial⟩ rfl)
 .
  refine sr (mq ?_);refine aq (nt (ax ?_));refine bX (Ia (pre:=[.obj c 69 (.agg (.pair (.rep Tl x5.1) (.pair (I x5.2.1) (.eq (.int .u64 x5.2.2.1)))))])) ?_;refine bX (iR [4,5,41] ⟨rfl,rfl,rfl,trivial⟩) ?_;cases h;exact aP () [_] 1 ⟨rfl,trivial⟩ rfl
def fh(k:Nat)(r2:Int×bT):Nat->((List Int)×Int×Int×(List (List (List Int)))×Int)->Option ((List (List (List Int)))×(List Int)×Int×Int)
 |0,_=>none
 |n+1,c=>
  if 0 < c.2.2.2.2 then(((((if 0 < (c.2.2.2.1.length:Int) then((eX k (c.1,c.2.1,c.2.2.1) 3).bind λl=>
  some (l.2.1,l.2.2.1,l.2.2.2,l.1)) else(some (c.1,c.2.1,c.2.2.1,false))):Option ((List Int)×Int×Int×Bool)).bind λe=>
  if e.2.2.2=true then((ck ((c.2.2.2.1.length:Int) - 1)).bind λx=>
  (aJ c.2.2.2.1 x).bind λu=>
  (gY k u).bind λr=>
  (cN (cu (length c.2.2.2.1+length [r]))).bind λ_=>
  some (e.1,e.2.1,e.2.2.1,c.2.2.2.1++[r])) else((jC k (e.1,e.2.1,e.2.2.1) r2.1).bind λh=>
  (cN (cu (length c.2.2.2.1+length [h.1]))).bind λ_=>
  some (h.2.1,h.2.2.1,h.2.2.2,c.2.2.2.1++[h.1]))):Option ((List Int)×Int×Int×(List (List (List Int))))).bind λj=>
  (ck (c.2.2.2.2 - 1)).bind λs=>
  fh k r2 n (j.1,j.2.1,j.2.2.1,j.2.2.2,s)) else(some (c.2.2.2.1,c.1,c.2.1,c.2.2.1))
def iq(k:Nat)(a0:bT)(a1:Int)(a2:Int):Option (ae×bT):=
 (fB k (a0.1,a0.2.1,a0.2.2) 1 a1).bind λr2=>
 (c8 k (r2.2.1,r2.2.2.1,r2.2.2.2) 3).bind λr3=>
 (gi k (r3.2.1,r3.2.2.1,r3.2.2.2) [0,1,1,2,r3.1]).bind λr4=>
 (c8 k (r4.2.1,r4.2.2.1,r4.2.2.2) 3).bind λr5=>
 (gi k (r5.2.1,r5.2.2.1,r5.2.2.2) [0,1,2,r5.1]).bind λr6=>
 (fB k (r6.2.1,r6.2.2.1,r6.2.2.2) 1 3).bind λr7=>
 (gi k (r7.2.1,r7.2.2.1,r7.2.2.2) [1,2,r7.1]).bind λr8=>
 (((fB k (r8.2.1,r8.2.2.1,r8.2.2.2) 1 a2).bind λe=>
 fh k r2 k (e.2.1,e.2.2.1,e.2.2.2,([]:(List (List (List Int)))),e.1)):Option ((List (List (List Int)))×(List Int)×Int×Int)).bind λc=>
 some ((r2.1,r4.1,r6.1,r8.1,c.1,[]),(c.2.1,c.2.2.1,c.2.2.2))
theorem ul(k:Nat)(a0:bT)(c:Nat)(a1:Int)(a2:Int)(r:ae×bT)(h:iq k a0 a1 a2=some r):
 dF Tryz.prog 27 [Pt c,I a1,I a2] [.obj c 69 (.agg (.pair (.rep Tl a0.1) (.pair (I a0.2.1) (.eq (.int .u64 a0.2.2)))))] (λ_:Unit=>(bJ [.agg (.pair (I r.1.1) (.pair (I r.1.2.1) (.pair (I r.1.2.2.1) (.pair (I r.1.2.2.2.1) (.pair (.rep (.slice (.slice Tl)) r.1.2.2.2.2.1) (.eq (.slice none 0 0)))))))],[.obj c 69 (.agg (.pair (.rep Tl r.2.1) (.pair (I r.2.2.1) (.eq (.int .u64 r.2.2.2)))))])):=by
 unfold iq at h
 replace h:=bq h
 refine dF.of 67 Tryz.func27 rfl Tryz.ntmps27 rfl λS w0=>?_
 refine sr ?_
 refine bg rfl rfl rfl (bI rfl Dq KP) trivial λb1=>?_
 refine nt ?_
 refine sr ?_
 iterate 2 refine mq ?_
 obtain⟨r2,Uf,h⟩:=aa h
 have Um:=iN k (a0.1,a0.2.1,a0.2.2) c 1 a1 r2 Uf
 refine fr 1 ?_
 refine kc (av [.tmp 10,.const (.int .i64 (1)),.tmp 11] rfl rfl Kr rfl Um) ?_
 iterate 2 refine mq ?_
 obtain⟨r3,Ue,h⟩:=aa h
 have Ul:=dB k (r2.2.1,r2.2.2.1,r2.2.2.2) c 3 r3 Ue
 refine kb (av [.tmp 14,.const (.int .i64 (3))] rfl rfl A9 rfl Ul) ?_
 refine bZ rfl (bi (t:=Ti) [(.const (.int .i64 (0)),_),(.const (.int .i64 (1)),_),(.const (.int .i64 (1)),_),(.const (.int .i64 (2)),_),(.tmp 15,_)] [0,1,1,2,r3.1] rfl rfl dy (.cons rfl .int (.cons rfl .int (.cons rfl .int (.cons rfl .int (.cons rfl .int .nil))))) rfl rfl) ⟨rfl,rfl,rfl,rfl,rfl,trivial⟩ ?_
 obtain⟨r4,Ud,h⟩:=aa h
 have Uk:=kX k (r3.2.1,r3.2.2.1,r3.2.2.2) c [0,1,1,2,r3.1] r4 Ud
 refine kb (av [.tmp 13,.tmp 16] rfl rfl NL rfl Uk) ?_
 iterate 2 refine mq ?_
 obtain⟨r5,Uc,h⟩:=aa h
 have Uj:=dB k (r4.2.1,r4.2.2.1,r4.2.2.2) c 3 r5 Uc
 refine kb (av [.tmp 19,.const (.int .i64 (3))] rfl rfl A9 rfl Uj) ?_
 refine bZ rfl (bi (t:=Ti) [(.const (.int .i64 (0)),_),(.const (.int .i64 (1)),_),(.const (.int .i64 (2)),_),(.tmp 20,_)] [0,1,2,r5.1] rfl rfl dy (.cons rfl .int (.cons rfl .int (.cons rfl .int (.cons rfl .int .nil)))) rfl rfl) ⟨rfl,rfl,rfl,rfl,trivial⟩ ?_
 obtain⟨r6,Ub,h⟩:=aa h
 have Ui:=kX k (r5.2.1,r5.2.2.1,r5.2.2.2) c [0,1,2,r5.1] r6 Ub
 refine kb (av [.tmp 18,.tmp 21] rfl rfl NL rfl Ui) ?_
 iterate 2 refine mq ?_
 obtain⟨r7,Ua,h⟩:=aa h
 have Uh:=iN k (r6.2.1,r6.2.2.1,r6.2.2.2) c 1 3 r7 Ua
 refine kc (av [.tmp 24,.const (.int .i64 (1)),.const (.int .i64 (3))] rfl rfl Kr rfl Uh) ?_
 refine jc (bi (t:=Ti) [(.const (.int .i64 (1)),_),(.const (.int .i64 (2)),_),(.tmp 25,_)] [1,2,r7.1] rfl rfl dy (.cons rfl .int (.cons rfl .int (.cons rfl .int .nil))) rfl rfl) ?_
 obtain⟨r8,T9,h⟩:=aa h
 have Ug:=kX k (r7.2.1,r7.2.2.1,r7.2.2.2) c [1,2,r7.1] r8 T9
 refine kb (av [.tmp 23,.tmp 26] rfl rfl NL rfl Ug) ?_
 refine bZ rfl (ee [(0,.tmp 12,_),(1,.tmp 17,_),(2,.tmp 22,_),(3,.tmp 27,_)] rfl O2 Dq LQ (j7 ⟨rfl,rfl,rfl,rfl,trivial⟩) rfl) ⟨rfl,rfl,rfl,rfl,trivial⟩ ?_
 refine bg rfl rfl rfl (bI rfl Dq KP) trivial λb9=>?_
 refine aW rfl rfl (aS rfl jP trivial rfl rfl) ⟨rfl,rfl,trivial⟩ ?_
 refine nt ?_
 refine aG (Z:=Value) (α:=(List (List (List Int)))×(List Int)×Int×Int) (λJ y=>[(6,Pt b1),(7,Pt b9)]) (λJ y=>[.obj b1 26 (.agg (.pair (I 0) (.pair (I 0) (.pair (I 0) (.pair (I 0) (.pair (.eq (.slice none 0 0)) (.eq (.slice none 0 0)))))))),.obj b9 26 (.agg (.pair (I r2.1) (.pair (I r4.1) (.pair (I r6.1) (.pair (I r8.1) (.pair (.eq J) (.eq (.slice none 0 0)))))))),.sl J 30 (.slice Tl) y.1,.obj c 69 (.agg (.pair (.rep Tl y.2.1) (.pair (I y.2.2.1) (.eq (.int .u64 y.2.2.2)))))]) h (λK h=>?_) (λJ y h=>?_)
 .
  refine sr ?_;iterate 2 refine mq ?_
  obtain⟨F,TV,h⟩:=aa h;refine fr 1 ?_;refine kc (av [.tmp 29,.const (.int .i64 (1)),.tmp 30] rfl rfl Kr rfl (iN k (r8.2.1,r8.2.2.1,r8.2.2.2) c 1 a2 F TV)) ?_;refine aq (nt (aj ?_));refine jN (SE.nil 30 (.slice Tl)) ?_;refine aH (λu e=>[(0,Pt c),(6,Pt b1),(7,Pt b9),(8,I e.2.2.2.2)]) (λu e=>[.obj c 69 (.agg (.pair (.rep Tl e.1) (.pair (I e.2.1) (.eq (.int .u64 e.2.2.1))))),.obj b1 26 (.agg (.pair (I 0) (.pair (I 0) (.pair (I 0) (.pair (I 0) (.pair (.eq (.slice none 0 0)) (.eq (.slice none 0 0)))))))),.obj b9 26 (.agg (.pair (I r2.1) (.pair (I r4.1) (.pair (I r6.1) (.pair (I r8.1) (.pair (.eq u) (.eq (.slice none 0 0)))))))),.sl u 30 (.slice Tl) e.2.2.2.1]) (fh k r2) k (.slice none 0 0) (F.2.1,F.2.2.1,F.2.2.2,([]:(List (List (List Int)))),F.1) (λ_=>rfl) h (SE.fin [1,3,2,0] ⟨rfl,rfl,rfl,rfl,trivial⟩ rfl) (λn u e h=>?_);unfold fh at h;refine ak (sr (mq ?_));refine jb (me rfl) ?_;refine nt (ci h (λh=>?_) (λh=>?_))
  .refine sk (aG (Z:=Value) (α:=(List Int)×Int×Int×(List (List (List Int)))) (λD l=>[(0,Pt c),(6,Pt b1),(7,Pt b9),(8,I e.2.2.2.2)]) (λD l=>[.obj c 69 (.agg (.pair (.rep Tl l.1) (.pair (I l.2.1) (.eq (.int .u64 l.2.2.1))))),.obj b1 26 (.agg (.pair (I 0) (.pair (I 0) (.pair (I 0) (.pair (I 0) (.pair (.eq (.slice none 0 0)) (.eq (.slice none 0 0)))))))),.obj b9 26 (.agg (.pair (I r2.1) (.pair (I r4.1) (.pair (I r6.1) (.pair (I r8.1) (.pair (.eq D) (.eq (.slice none 0 0)))))))),.sl D 30 (.slice Tl) l.2.2.2]) h (λK h=>?_) (λD l h=>?_))
   .refine aj (ak (sr (fl dU ?_)));refine fr 2 ?_;refine lo kh ?_;refine fr 3 ?_;refine ka (ma rfl rfl yi) ?_;refine aq (nt ?_);refine aG (Z:=Unit) (α:=(List Int)×Int×Int×Bool) (λQ j=>[(0,Pt c),(6,Pt b1),(7,Pt b9),(8,I e.2.2.2.2),(9,I (e.2.2.2.1.length:Int)),(44,.eq (.bool j.2.2.2))]) (λQ j=>[.obj c 69 (.agg (.pair (.rep Tl j.1) (.pair (I j.2.1) (.eq (.int .u64 j.2.2.1))))),.obj b1 26 (.agg (.pair (I 0) (.pair (I 0) (.pair (I 0) (.pair (I 0) (.pair (.eq (.slice none 0 0)) (.eq (.slice none 0 0)))))))),.obj b9 26 (.agg (.pair (I r2.1) (.pair (I r4.1) (.pair (I r6.1) (.pair (I r8.1) (.pair (.eq u) (.eq (.slice none 0 0)))))))),.sl u 30 (.slice Tl) e.2.2.2.1]) h (λK h=>?_) (λQ j h=>?_)
    .refine ab (mq ?_);refine jb (me rfl) ?_;refine mq ?_;refine cE (s:=41) rfl (λhb=>?_) (λhb=>?_)
     .replace h:=ec (sx hb) h;refine gm ?_;obtain⟨E,zz,h⟩:=aa h;refine fr 2 ?_;refine oh rfl rfl rfl rfl rfl rfl (av [.tmp 42,.const (.int .i64 (3))] rfl rfl NK rfl (jf k (e.1,e.2.1,e.2.2.1) c 3 E zz)) ⟨rfl,rfl,trivial⟩ ?_;refine pt (nl ?_);exact jz ((),(E.2.1,E.2.2.1,E.2.2.2,E.1)) h [0,3,2,1]
     .replace h:=cJ (sB hb) h;iterate 2 refine gn ?_
      refine pf (nl ?_);exact jz ((),(e.1,e.2.1,e.2.2.1,false)) h [2,3,1,0]
    .refine cv h (λh=>?_) (λh=>?_)
     .refine ak (cP ?_);refine da (aK rfl dU) ?_;refine ea 2 (ay rfl kh pH rfl) ?_;refine da (aK rfl dU) ?_;refine ea 2 (ay rfl kh pH rfl) ?_;refine dm ?_;obtain⟨TY,X,h⟩:=aa h;refine db (dY rfl X) ?_;obtain⟨TX,M,h⟩:=aa h;refine eb 3 (cG (t:=(.slice Tl)) rfl yi sZ M) ?_;refine ea 3 (gu (i:=Int.toNat TY) (off:=0) rfl sZ (λ_=>rfl) rfl (dD M).2.2 rfl) ?_;obtain⟨O,qt,h⟩:=aa h;refine da (C9 (av [.tmp 52] rfl rfl RY rfl (rY k TX O qt))) ?_;refine da (bi (t:=(.slice Tl)) [(.tmp 53,_)] [O] rfl rfl Ap (.cons rfl .rep .nil) rfl rfl) ?_;refine df dN ?_;obtain⟨Uo,mc,h⟩:=aa h;refine fr 3 ?_;refine ek rfl rfl rfl (cH rfl rfl Ap (ao mc)) ⟨rfl,rfl,trivial⟩ λT8=>?_;refine fl dU ?_;refine uO λo25=>?_;refine fr 3 ?_;refine aW rfl rfl (aS rfl kh o25 rfl rfl) ⟨rfl,rfl,trivial⟩ ?_;refine nt (eW (bF (cO (an ?_))));exact jz (T8,(j.1,j.2.1,j.2.2.1,e.2.2.2.1++[O])) h [2,3,0,1]
     .refine sk (cP ?_);refine da (aK rfl dU) ?_;refine ea 2 (ay rfl kh pH rfl) ?_;refine dm ?_;refine da (aK rfl gp) ?_;refine ea 2 (ay rfl bV pH rfl) ?_;obtain⟨x,mw,h⟩:=aa h;refine Ll 0 rfl rfl rfl rfl (av [.tmp 59,.tmp 61] rfl rfl RX rfl (uj k (j.1,j.2.1,j.2.2.1) c r2.1 x mw)) ⟨rfl,rfl,trivial⟩ ?_;refine da (bi (t:=(.slice Tl)) [(.tmp 62,_)] [x.1] rfl rfl Ap (.cons rfl .rep .nil) rfl rfl) ?_;refine Ln (Δ':=[.obj b1 26 (.agg (.pair (I 0) (.pair (I 0) (.pair (I 0) (.pair (I 0) (.pair (.eq (.slice none 0 0)) (.eq (.slice none 0 0)))))))),.obj b9 26 (.agg (.pair (I r2.1) (.pair (I r4.1) (.pair (I r6.1) (.pair (I r8.1) (.pair (.eq u) (.eq (.slice none 0 0)))))))),.sl u 30 (.slice Tl) e.2.2.2.1,.obj c 69 (.agg (.pair (.rep Tl x.2.1) (.pair (I x.2.2.1) (.eq (.int .u64 x.2.2.2)))))]) (by kernel_rfl) dN (by kernel_rfl) ?_;obtain⟨Un,Y,h⟩:=aa h;refine fr 2 ?_;refine ek rfl rfl rfl (cH rfl rfl Ap (ao Y)) ⟨rfl,rfl,trivial⟩ λTZ=>?_;refine fl dU ?_;refine uO λo29=>?_;refine fr 2 ?_;refine aW rfl rfl (aS rfl kh o29 rfl rfl) ⟨rfl,rfl,trivial⟩ ?_;refine aA (bn ?_);exact jz (TZ,(x.2.1,x.2.2.1,x.2.2.2,e.2.2.2.1++[x.1])) h [3,2,0,1]
   .refine ab (mq ?_);obtain⟨TW,U,h⟩:=aa h;refine jb (dY rfl U) ?_;refine aq (nl ?_);exact jz (D,(l.1,l.2.1,l.2.2.1,l.2.2.2,TW)) h [0,1,2,3]
  .refine xa ?_;exact jz (u,(e.2.2.2.1,e.1,e.2.1,e.2.2.1)) h [1,2,3,0]
 .
  refine sr (fr 1 ?_);refine fr 2 ?_;refine eV (qf (off:=4) [] trivial rfl rfl) ?_;refine lo jP ?_;refine fr 1 ?_;refine aW rfl rfl (aS rfl jP trivial rfl rfl) ⟨rfl,rfl,trivial⟩ ?_;refine nt (ax (bX (SE.fin (Γ':=[(6,_)]) [2,0,1] ⟨rfl,trivial⟩ rfl) ?_));cases h;exact aP () [.agg (.pair (I r2.1) (.pair (I r4.1) (.pair (I r6.1) (.pair (I r8.1) (.pair (.rep (.slice (.slice Tl)) y.1) (.eq (.slice none 0 0)))))))] 1 ⟨⟨_,_,_,_,_,rfl,(.tail _ (.head _)),jP,(vk),rfl⟩,trivial⟩ rfl
def eL(k:Nat)(a0:ae)(a1:(List Int)):Nat->(Int×Int)->Option (Except ((Option ae)×Int×Int) Int)
 |0,_=>none
 |n+1,y5=>
  if y5.2 < (a1.length:Int) then((aJ a1 y5.2).bind λx7=>
  (ck (a0.1 - 1)).bind λx8=>
  (dz k x7 0 x8).bind λr9=>
  if¬(r9=true) then(some (.error (none,0,3))) else(((if 0 < y5.2 then((ck (y5.2 - 1)).bind λh=>
  (aJ a1 h).bind λe=>
  some (decide (x7≤e))) else(some false)):Option (Bool)).bind λj=>
  if j=true then(some (.error (none,0,5))) else((fK k y5.1 x7).bind λl=>
  (ck (y5.2+1)).bind λc=>
  eL k a0 a1 n (l,c)))) else(some (.ok y5.1))
def dr(k:Nat)(a0:ae)(h:Int)(e:(List Int)):Nat->Int->Option (Except ((Option ae)×Int×Int) Unit)
 |0,_=>none
 |n+1,c=>
  if c < (e.length:Int) then((aJ e c).bind λu=>
  (ck (a0.1 - 1)).bind λs=>
  (ck ((a0.2.2.2.2.1.length:Int) - 1)).bind λr=>
  (aJ [s,r,(a0.2.2.2.2.1.length:Int)] h).bind λl=>
  (dz k u 0 l).bind λx=>
  if¬(x=true) then(some (.error (none,0,3))) else((ck (c+1)).bind λj=>
  dr k a0 h e n j)) else(some (.ok ()))
def cM(k:Nat)(a0:ae)(a2:(List Int))(a3:(List Int))(a4:(List Int)):Nat->Int->Option (Except ((Option ae)×Int×Int) Unit)
 |0,_=>none
 |n+1,c=>
  if c < ([a2,a3,a4].length:Int) then(bE (α:=Unit) ((aJ [a2,a3,a4] c).bind λj=>
  dr k a0 c j k 0) (λe=>some (.error e)) λ_=>
  (ck (c+1)).bind λh=>
  cM k a0 a2 a3 a4 n h) else(some (.ok ()))
def jA(k:Nat)(a0:ae)(a1:(List Int))(a2:(List Int))(a3:(List Int))(a4:(List Int)):Option ((Option ae)×Int×Int):=
 (mh k a0).bind λr2=>
 if¬(r2=0) then(some (none,0,r2)) else(bE (α:=Int) (eL k a0 a1 k (0,0)) (some) λx3=>
 bE (α:=Unit) (cM k a0 a2 a3 a4 k 0) (some) λ_=>
 (iG k a0).bind λe=>
 fX e (none) (λc=>(eg k c).bind λh=>
 some (some c,x3,0)))
theorem lF(k:Nat)(a0:ae)(a1:(List Int))(a2:(List Int))(a3:(List Int))(a4:(List Int))(r:(Option ae)×Int×Int)(h:jA k a0 a1 a2 a3 a4=some r):
 cj (dR Tryz.prog) 37 [.rep au a0,.rep Tl a1,.rep Tl a2,.rep Tl a3,.rep Tl a4] [] (λz:Nat×Nat=>(bJ [Ji r.1 z.1,.eq (.int .u8 r.2.1),I r.2.2],Jh r.1 λq=>qh q z.1 z.2 k)):=by
 unfold jA at h
 replace h:=bq h
 refine cj.of 95 Tryz.func37 rfl Tryz.ntmps37 rfl λS w0=>?_
 refine sr ?_
 refine bx λb1=>?_
 refine cq ?_
 refine cq ?_
 refine cq ?_
 refine nt ?_
 refine ak ?_
 refine sr ?_
 refine lo jP ?_
 obtain⟨r2,Up,h⟩:=aa h
 have Ur:=xl k a0 r2 Up
 refine ja (av [.tmp 22] rfl rfl RR rfl Ur) ?_
 refine aq ?_
 refine nt ?_
 refine sr ?_
 refine mq ?_
 refine jb (eZ rfl) ?_
 refine nt ?_
 refine cn h (λh=>?_) (λh=>?_)
 .
  refine sr (mq ?_);refine cq ?_;refine cq ?_;refine aq (nt (rx ?_));cases h;exact aP (0,0) [.eq (.pointer none),_,_] 0 ⟨rfl,rfl,rfl,trivial⟩ rfl
 .
  refine sk (sr (cq (nt ?_)));refine c7 (Z:=Unit) (α:=Int) (λz4 x3=>[(2,.rep Tl a2),(3,.rep Tl a3),(4,.rep Tl a4),(5,Pt b1),(14,.eq (.int .u8 x3))]) (λz4 x3=>[.obj b1 26 (.rep au a0)]) (λe=>e=r) h (λe h=>Option.some.inj h) (λK hR h=>?_) (λz4 x3 h=>?_)
  .refine sr (mq ?_);refine ol fM ?_;refine fa rfl ?_;refine nt (aj (aH (λz6 y5=>[(1,.rep Tl a1),(2,.rep Tl a2),(3,.rep Tl a3),(4,.rep Tl a4),(5,Pt b1),(14,.eq (.int .u8 y5.1)),(27,.rep Tl a1),(28,I (a1.length:Int)),(29,I y5.2)]) (λz6 y5=>[.obj b1 26 (.rep au a0)]) (eL k a0 a1) k () (0,0) (λ_=>rfl) h (SE.fin [0] ⟨rfl,rfl,rfl,rfl,rfl,rfl,rfl,rfl,rfl,trivial⟩ rfl) (λn z6 y5 h=>?_)));unfold eL at h;refine sr (jb (bA rfl) ?_);refine nt (ak (ci h (λh=>?_) (λh=>?_)))
   .refine sk (ak (aj (sr (mq ?_))));obtain⟨x7,Un,h⟩:=aa h;refine jb (aI (t:=Ti) rfl fM bV Un) ?_;refine ja (am (t:=Ti) rfl bV rfl) ?_;refine aq ?_;refine aq (nt (ak (sr ?_)));refine mq ?_;refine fl gp ?_;refine lo bV ?_;obtain⟨x8,Um,h⟩:=aa h;refine jb (dY rfl Um) ?_;obtain⟨r9,Uo,h⟩:=aa h;refine jc (av [.tmp 34,.const (.int .i64 (0)),.tmp 37] rfl rfl xE rfl (dJ k x7 0 x8 r9 Uo)) ?_;refine ja (gU rfl) ?_;refine nt (cw h (λh=>?_) (λh=>?_))
    .refine sr (cq ?_);refine cq ?_;refine cq (nt (rx (br (ba (aZ ?_)))));obtain rfl:=hR _ h;exact aP (0,0) [.eq (.pointer none),_,_] 0 ⟨rfl,rfl,rfl,trivial⟩ rfl
    .refine sk (ak (aG (Z:=Unit) (α:=Bool) (λO y=>[(1,.rep Tl a1),(2,.rep Tl a2),(3,.rep Tl a3),(4,.rep Tl a4),(5,Pt b1),(14,.eq (.int .u8 y5.1)),(16,I x7),(27,.rep Tl a1),(28,I (a1.length:Int)),(29,I y5.2),(50,.eq (.bool y))]) (λO y=>[.obj b1 26 (.rep au a0)]) h (λK h=>?_) (λO y h=>?_)))
     .refine ab (mq ?_);refine jb (me rfl) ?_;refine mq ?_;refine cE (s:=42) rfl (λhb=>?_) (λhb=>?_)
      .replace h:=ec (sx hb) h;refine gm ?_;refine gm ?_;refine gm ?_;obtain⟨Uu,T8,h⟩:=aa h;refine gb (dY rfl T8) ?_;obtain⟨Ui,TZ,h⟩:=aa h;refine gb (aI (t:=Ti) rfl fM bV TZ) ?_;refine ga (am (t:=Ti) rfl bV rfl) ?_;refine gb (BL rfl) ?_;refine pt (nl ?_);exact jz ((),decide (x7≤Ui)) h [0]
      .replace h:=cJ (sB hb) h;iterate 7 refine gn ?_
       refine pf (nl ?_);exact jz ((),false) h [0]
     .refine cv h (λh=>?_) (λh=>?_)
      .refine sr (cq ?_);refine cq ?_;refine cq (nt (rx (br (ba (aZ ?_)))));obtain rfl:=hR _ h;exact aP (0,0) [.eq (.pointer none),_,_] 0 ⟨rfl,rfl,rfl,trivial⟩ rfl
      .refine sk (ab ?_);iterate 2 refine mq ?_
       obtain⟨Y,Uc,h⟩:=aa h;refine jb (av [.tmp 51,.tmp 52] rfl rfl NN rfl (jU k y5.1 x7 Y Uc)) ?_;refine aq (aA (aX (tn (ab ?_))));obtain⟨Uh,TY,h⟩:=aa h;refine jb (bo rfl TY) ?_;refine mq (nl ?_);exact jz ((),(Y,Uh)) h [0]
   .refine xa ?_;exact jz ((),y5.1) h [0]
  .refine c7 (Z:=Unit) (α:=Unit) (λM U=>[(5,Pt b1),(14,.eq (.int .u8 x3))]) (λM U=>[.obj b1 26 (.rep au a0)]) (λe=>e=r) h (λe h=>Option.some.inj h) (λK hR h=>?_) (λM U h=>?_)
   .refine sr ?_;iterate 3 refine mq ?_
    refine jc (bi (t:=Tl) [(.tmp 55,_),(.tmp 56,_),(.tmp 57,_)] [a2,a3,a4] rfl rfl o5 (.cons rfl .rep (.cons rfl .rep (.cons rfl .rep .nil))) rfl rfl) ?_;refine ol qY ?_;refine fa rfl ?_;refine nt (aj (aH (λJ c=>[(5,Pt b1),(14,.eq (.int .u8 x3)),(58,.rep (.slice Tl) [a2,a3,a4]),(59,I ([a2,a3,a4].length:Int)),(60,I c)]) (λJ c=>[.obj b1 26 (.rep au a0)]) (cM k a0 a2 a3 a4) k () 0 (λ_=>rfl) h (SE.fin [0] ⟨rfl,rfl,rfl,rfl,rfl,trivial⟩ rfl) (λn J c h=>?_)));unfold cM at h;refine sr (jb (bA rfl) ?_);refine nt (ak (ci h (λh=>?_) (λh=>?_)))
    .refine sk (c7 (Z:=Unit) (α:=Unit) (λE Q=>[(5,Pt b1),(14,.eq (.int .u8 x3)),(58,.rep (.slice Tl) [a2,a3,a4]),(59,I ([a2,a3,a4].length:Int)),(60,I c)]) (λE Q=>[.obj b1 26 (.rep au a0)]) (λe=>e=r) h (λe h=>hR e h) (λK hR h=>?_) (λE Q h=>?_))
     .refine aj (sr (mq ?_));obtain⟨x,TX,h⟩:=aa h;refine jb (aI (t:=Tl) rfl qY gJ TX) ?_;refine ja (am (t:=Tl) rfl gJ rfl) ?_;refine aq ?_;refine aq (nt (sr ?_));refine mq ?_;refine ol fM ?_;refine fa rfl ?_;refine nt (aj (aH (λD u=>[(5,Pt b1),(14,.eq (.int .u8 x3)),(17,I c),(58,.rep (.slice Tl) [a2,a3,a4]),(59,I ([a2,a3,a4].length:Int)),(60,I c),(65,.rep Tl x),(66,I (x.length:Int)),(67,I u)]) (λD u=>[.obj b1 26 (.rep au a0)]) (dr k a0 c x) k () 0 (λ_=>rfl) h (SE.fin [0] ⟨rfl,rfl,rfl,rfl,rfl,rfl,rfl,rfl,rfl,trivial⟩ rfl) (λn D u h=>?_)));unfold dr at h;refine sr (jb (bA rfl) ?_);refine nt (ak (ci h (λh=>?_) (λh=>?_)))
      .refine sk (ak (aj (sr ?_)));obtain⟨Ug,TW,h⟩:=aa h;refine jb (aI (t:=Ti) rfl fM bV TW) ?_;refine ja (am (t:=Ti) rfl bV rfl) ?_;refine aq (nt (sr ?_));refine mq ?_;refine fl gp ?_;refine lo bV ?_;obtain⟨Ut,TV,h⟩:=aa h;refine jb (dY rfl TV) ?_;refine fl dU ?_;refine lo kh ?_;refine ol yi ?_;obtain⟨Us,zz,h⟩:=aa h;refine jb (dY rfl zz) ?_;refine fl dU ?_;refine lo kh ?_;refine ol yi ?_;refine jc (DT rfl Qs bV OL) ?_;refine mq ?_;obtain⟨Uf,qt,h⟩:=aa h;refine jb (nK (t:=Ti) rfl Qs bV rfl rfl (λ_=>rfl) qt) ?_;obtain⟨Uk,Ub,h⟩:=aa h;refine jc (av [.tmp 71,.const (.int .i64 (0)),.tmp 84] rfl rfl xE rfl (dJ k Ug 0 Uf Uk Ub)) ?_;refine ja (gU rfl) ?_;refine nt (cw h (λh=>?_) (λh=>?_))
       .refine sr (cq ?_);refine cq ?_;refine cq (nt (ax (br (ba (br (ba (aZ ?_)))))));obtain rfl:=hR _ h;exact aP (0,0) [.eq (.pointer none),_,_] 0 ⟨rfl,rfl,rfl,trivial⟩ rfl
       .refine bf (aX (tn (ab ?_)));obtain⟨Ue,mw,h⟩:=aa h;refine jb (bo rfl mw) ?_;refine mq (nl ?_);exact jz ((),Ue) h [0]
      .refine eW (bF (bF (cO (bn ?_))));exact jz ((),()) h [0]
     .refine ab ?_;obtain⟨Ud,mc,h⟩:=aa h;refine jb (bo rfl mc) ?_;refine mq (nl ?_);exact jz ((),Ud) h [0]
    .refine xa ?_;exact jz ((),()) h [0]
   .refine sr (lo jP ?_);obtain⟨X,Ua,h⟩:=aa h;have j:=nc k a0 X Ua;rcases hr:X with _ |Ul
    .rw [hr] at h j;replace h:=vv h;refine aL (Δ:=[]) (F:=_) (λ_ _ _=>ag rfl _) rfl rfl (av [.tmp 89] rfl rfl Kq rfl j) ⟨rfl,trivial⟩ λ_=>?_;cases h
    .rw [hr] at h j;replace h:=vu h;refine aL (Δ:=[]) (F:=_) (λ_ _ _=>ag rfl _) rfl rfl (av [.tmp 89] rfl rfl Kq rfl j) ⟨rfl,trivial⟩ λl=>?_;refine aq (nt (sr ?_));refine mq ?_;obtain⟨Uj,T9,h⟩:=aa h;refine fr 1 ?_;refine fr 1 ?_;refine aL (Δ:=[_,_]) (F:=_) (λ_ _ _=>ag rfl _) rfl rfl (aY [.tmp 91] rfl rfl RQ rfl (pJ k Ul l.1 l.2 Uj T9)) ⟨rfl,trivial⟩ λ_=>?_;refine nt (sr ?_);iterate 2 refine mq ?_
     refine aq ?_;refine aq ?_;refine cq (nt (ax ?_));cases h;exact aP (l.1,l.2) [.eq (.pointer (some ⟨l.1,0,none⟩)),_,_] 2 ⟨rfl,rfl,rfl,trivial⟩ rfl
def eO(k:Nat)(a0:ae)(a2:Int)(r1:(List (List Int))):Nat->Int->Option Bool
 |0,_=>none
 |n+1,y3=>
  if y3 < (a0.2.2.2.2.2.length:Int) then((aJ a0.2.2.2.2.2 y3).bind λx5=>
  (((eK k a2 y3).bind λr9=>
  if¬(r9=true) then((aJ r1 x5.2.1).bind λh=>
  (aJ h x5.1).bind λe=>
  some (!decide ((decide (a0.2.2.1≤e))=x5.2.2))) else(some false)):Option (Bool)).bind λx7=>
  if x7=true then(some false) else((ck (y3+1)).bind λc=>
  eO k a0 a2 r1 n c)) else(some true)
def iI(k:Nat)(a0:ae)(a1:Int)(a2:Int):Option Bool:=
 (lb k a0 a1).bind λr1=>
 eO k a0 a2 r1 k 0
theorem nR(k:Nat)(a0:ae)(c z_a0:Nat)(a1:Int)(a2:Int)(r:Bool)(h:iI k a0 a1 a2=some r):
 Bw (dR Tryz.prog) 96 [Pt c,.eq (.int .u8 a1),.eq (.int .u8 a2)] [.obj c 129 (aR a0 z_a0),.inv z_a0 (bW k a0)] (.iface 150 (.agg #[])) r:=by
 unfold iI at h
 replace h:=bq h
 refine Bw.of 48 Tryz.func96 rfl Tryz.ntmps96 rfl λS w0=>?_
 refine sr ?_
 iterate 2 refine mq ?_
 obtain⟨r1,E,h⟩:=aa h
 have J:=oN k a0 c z_a0 a1 r1 E
 refine fr 1 ?_
 refine fr 1 ?_
 refine aL (Δ:=[_,_]) (F:=_) (λ_ _ _=>ag rfl _) rfl rfl (aY [.tmp 9,.tmp 10] rfl rfl Eb rfl J) ⟨rfl,rfl,trivial⟩ λ_=>?_
 refine bg rfl rfl rfl (bI rfl EQ HT) trivial λb2=>?_
 refine aW rfl rfl (aS rfl FB rfl rfl rfl) ⟨rfl,rfl,trivial⟩ ?_
 refine eV (ji (t:=(.arr 7 Tr)) (x:=r1) [6] .rep ⟨rfl,trivial⟩) ?_
 refine nt ?_
 refine sr ?_
 refine mq ?_
 refine ja (cI rfl) ?_
 refine fl gC ?_
 refine fl A3 ?_
 refine lo MG ?_
 refine ol Qq ?_
 refine fa rfl ?_
 refine nt ?_
 refine aj ?_
 refine aH (λz4 y3=>[(0,Pt c),(2,.eq (.int .u8 a2)),(6,.at (.arr 7 Tr) r1),(16,Rs bR a0.2.2.2.2.2),(17,I (a0.2.2.2.2.2.length:Int)),(18,I y3)]) (λz4 y3=>[.obj c 129 (aR a0 z_a0),.inv z_a0 (bW k a0)]) (eO k a0 a2 r1) k () 0 (λ_=>rfl) h (SE.fin [0,1] ⟨rfl,rfl,rfl,rfl,rfl,rfl,trivial⟩ rfl) (λn z4 y3 h=>?_)
 unfold eO at h
 refine sr ?_
 refine jb (bA rfl) ?_
 refine nt ?_
 refine ak ?_
 refine ci h (λh=>?_) (λh=>?_)
 .
  refine sk (ak (aj (sr (mq ?_))));obtain⟨x5,y,h⟩:=aa h;refine jb (aI (t:=bR) rfl Qq wR y) ?_;refine ja (am (t:=bR) rfl wR rfl) ?_;refine bg rfl rfl rfl (bI rfl IF N9) trivial λb6=>?_;refine aq ?_;refine aW rfl rfl (aS rfl wR rfl rfl rfl) ⟨rfl,rfl,trivial⟩ ?_;refine nt (aG (Z:=Unit) (α:=Bool) (λz8 x7=>[(0,Pt c),(2,.eq (.int .u8 a2)),(6,.at (.arr 7 Tr) r1),(16,Rs bR a0.2.2.2.2.2),(17,I (a0.2.2.2.2.2.length:Int)),(18,I y3),(44,.eq (.bool x7))]) (λz8 x7=>[.obj c 129 (aR a0 z_a0),.inv z_a0 (bW k a0)]) h (λK h=>?_) (λz8 x7 h=>?_))
  .refine cP ?_;refine dm ?_;refine dm ?_;obtain⟨r9,D,h⟩:=aa h;refine db (av [.tmp 23,.tmp 24] rfl rfl HA rfl (gg k a2 y3 r9 D)) ?_;refine da (gU rfl) ?_;refine lR rfl rfl rfl (aQ rfl) ⟨rfl,trivial⟩ (λhb=>?_) (λhb=>?_)
   .replace h:=ec (AI hb) h;refine aC rfl rfl rfl rfl rfl (aK rfl Ht) ⟨rfl,rfl,trivial⟩ ?_;refine iU 0 rfl rfl rfl rfl rfl rfl (ay rfl bV pH rfl) ⟨rfl,rfl,trivial⟩ ?_;refine aC rfl rfl rfl rfl rfl (aK rfl Hu) ⟨rfl,rfl,trivial⟩ ?_;refine iU 0 rfl rfl rfl rfl rfl rfl (ay rfl bV pH rfl) ⟨rfl,rfl,trivial⟩ ?_;obtain⟨M,l,h⟩:=aa h;refine aC rfl rfl rfl rfl rfl (co (t:=Tr) rfl IB iV l) ⟨rfl,rfl,rfl,trivial⟩ ?_;obtain⟨u,j,h⟩:=aa h;refine aC rfl rfl rfl rfl rfl (co (t:=Ti) rfl Bm bV j) ⟨rfl,rfl,rfl,trivial⟩ ?_;refine aC rfl rfl rfl rfl rfl (am (t:=Ti) rfl bV rfl) ⟨rfl,rfl,trivial⟩ ?_;refine aC rfl rfl rfl rfl rfl (aQ rfl) ⟨rfl,rfl,trivial⟩ ?_;refine aC rfl rfl rfl rfl rfl (cI rfl) ⟨rfl,rfl,trivial⟩ ?_;refine aC rfl rfl rfl rfl rfl (aK rfl gC) ⟨rfl,rfl,trivial⟩ ?_;refine aC rfl rfl rfl rfl rfl (aK rfl A4) ⟨rfl,rfl,trivial⟩ ?_;refine iU 1 rfl rfl rfl rfl rfl rfl (ay rfl bV pH rfl) ⟨rfl,rfl,trivial⟩ ?_;refine aC rfl rfl rfl rfl rfl (iC rfl) ⟨rfl,rfl,rfl,trivial⟩ ?_;refine aC rfl rfl rfl rfl rfl (aK rfl NG) ⟨rfl,rfl,trivial⟩ ?_;refine iU 0 rfl rfl rfl rfl rfl rfl (ay rfl TF pH rfl) ⟨rfl,rfl,trivial⟩ ?_;refine df dN ?_;refine gb (Nh rfl U4) ?_;refine pt (nl ?_);exact jz ((), !decide ((decide (a0.2.2.1≤u))=x5.2.2)) h [1,2]
   .replace h:=cJ (t9 hb) h;iterate 15 refine dg ?_
    refine df dN ?_;refine gn ?_;refine pf (nl ?_);exact jz ((),false) h [1,2]
  .refine cv h (λh=>?_) (λh=>?_)
   .refine ab (bZ rfl (Gs rfl Og OK) trivial ?_);refine ja (Gm rfl Og) ?_;refine EI rfl rfl rfl rfl ?_;refine zO ?_;refine sL ?_;refine sL ?_;refine zO ?_;refine bX (SE.fin (Γ':=[]) [0,1] trivial rfl) ?_;cases h;exact K8
   .refine bf (aX (tn (ab ?_)));obtain⟨s,e,h⟩:=aa h;refine jb (bo rfl e) ?_;refine mq (nl ?_);exact jz ((),s) h [0,1]
 .
  refine eW (bF (bF (cO (jM ?_))));refine bX (SE.fin (Γ':=[]) [0,1] trivial rfl) ?_;cases h;exact aP () [] 2 trivial rfl
def ij(k:Nat)(a0:ae)(a1:Int)(a2:Int):Option Bool:=iI k a0 a1 a2
theorem LA:Oh Tryz.prog 150 (.agg #[]):=⟨⟨_,Og⟩,λw=>by kernel_rfl⟩
theorem HB:∀(S:FS) (w:World),(A.rep (.arr 0 Ti) []).holds S w (.agg #[]):=λ_ _=>⟨[],⟨rfl,rfl⟩,rfl⟩
theorem Lq:∀w,(zeroValue 150).run Tryz.prog w= .ok (.agg #[]) w:=λw=>by kernel_rfl
theorem LS:∀S w,(A.cells S w (.rep (.arr 0 Ti) []) (Value.cells (.agg #[])).toList):=λ_ _=>⟨rfl,rfl⟩
theorem LD:dV Tryz.prog 150 0 true:=⟨λw=>by kernel_rfl,λw=>by kernel_rfl⟩
theorem RG:ah Tryz.prog 95:=ah.of Tryz.func95 (by kernel_rfl) (by kernel_rfl)
theorem PY:ah Tryz.prog 96:=ah.of Tryz.func96 (by kernel_rfl) (by kernel_rfl)
theorem IY:dV Tryz.prog 4 1 false:=⟨λw=>by kernel_rfl,λw=>by kernel_rfl⟩
theorem Q3:∀w,(zeroValue 4).run Tryz.prog w= .ok (.bool false) w:=λw=>by kernel_rfl
theorem SO:∀S w,(A.cells S w (.eq (.bool false)) (Value.cells (.bool false)).toList):=λ_ _=>⟨rfl,rfl⟩
theorem zx:yd Tryz.prog 95 (.iface 150 (.agg #[])) 4 (.bool false):=by
 refine⟨RG,λM e0=>?_,λM e0=>?_⟩
 .refine lu.of (M:=M) (m:=.returning) (m1:=.returning) (val:=.nilIface) Tryz.func95 rfl rfl (by decide) rfl rfl (by decide) (λρ=>rfl) (λfr b cs hb hm=>FX hb hm rfl) (.inl rfl) λb S w0=>?_;refine ja (Jl HB rfl LA) ?_;refine mq ?_;refine xr ?_;refine xr ?_;refine bg rfl rfl rfl (bI rfl Lq LS) trivial λb1=>?_;refine aW rfl rfl (aS rfl LD rfl rfl rfl) ⟨rfl,rfl,trivial⟩ ?_;refine aq (nt (sr ?_));refine mq (nt ?_);refine iS rfl (λhb=>by cases hb) (λhb=>?_);refine bf (jM ?_);refine bX (SE.fin (Γ':=[]) [1] trivial rfl) ?_;exact aP () [] 1 trivial rfl
 .refine lu.of (M:=M) (m:=.panicking (gP (.iface 150 (.agg #[])) false)) (m1:=.panicking (gP (.iface 150 (.agg #[])) true)) (val:=.iface 150 (.agg #[])) Tryz.func95 rfl rfl (by decide) rfl rfl (by decide) (λρ=>rfl) (λfr b cs hb hm=>FW hb hm) (.inr ⟨_,rfl⟩) λb S w0=>?_;refine ja (Jk HB rfl LA) ?_;refine mq ?_;refine xr ?_;refine xr ?_;refine bg rfl rfl rfl (bI rfl Lq LS) trivial λb1=>?_;refine aW rfl rfl (aS rfl LD rfl rfl rfl) ⟨rfl,rfl,trivial⟩ ?_;refine aq (nt (sr ?_));refine mq (nt ?_);refine iS rfl (λhb=>?_) (λhb=>by cases hb);refine ab (fr 1 ?_);refine aW rfl rfl (aS rfl IY rfl rfl rfl) ⟨rfl,rfl,trivial⟩ ?_;refine aA (jM ?_);refine bX (SE.fin (Γ':=[]) [0] trivial rfl) ?_;exact aP () [] 1 trivial rfl
theorem nj(k:Nat)(a0:ae)(c z_a0:Nat)(a1:Int)(a2:Int)(r:Bool)(h:ij k a0 a1 a2=some r):
 cj (dR Tryz.prog) 74 [Pt c,.eq (.int .u8 a1),.eq (.int .u8 a2)] (qh a0 c z_a0 k) (λ_:Unit=>(bJ [.eq (.bool r)],qh a0 c z_a0 k)):=by
 have cr:=nR k a0 c z_a0 a1 a2 r h
 refine zR 12 Tryz.func74 rfl Tryz.ntmps74 rfl λS w0=>?_
 refine sr ?_
 refine bg rfl rfl rfl (bI rfl Q3 SO) trivial λb6=>?_
 refine nt ?_
 refine sr ?_
 refine ja (rI [] [.tmp 6] [] [(Pv b6)] rfl rfl rfl) ?_
 refine Ii rfl rfl rfl rfl rfl ?_
 refine nt ?_
 refine sr ?_
 iterate 3 refine mq ?_
 refine fr 2 ?_
 refine fr 2 ?_
 cases r with
 |false=>
  refine Ij (Ss:=[Pt c,.eq (.int .u8 a1),.eq (.int .u8 a2)]) (Δ:=qh a0 c z_a0 k) (F:=[.obj b6 4 (.eq (.bool false))]) [.tmp 8,.tmp 9,.tmp 10] rfl rfl rfl rfl PY ⟨rfl,rfl,rfl,trivial⟩ cr ?_;refine sL ?_;refine bX (SE.fin (Γ':=[(6,_)]) [2,0,1] ⟨rfl,trivial⟩ rfl) ?_;refine EJ zx ?_;refine bX (SE.fin (Γ':=[(6,_)]) [1,2,0] ⟨rfl,trivial⟩ rfl) ?_;exact aP () [.eq (.bool false)] 2 ⟨⟨_,_,_,_,_,rfl,(.tail _ (.tail _ (.head _))),IY,(λ_=>rfl),rfl⟩,trivial⟩ rfl
 |true=>
  refine aL (Δ:=qh a0 c z_a0 k) (F:=[.obj b6 4 (.eq (.bool false))]) (λ_ _ _=>ag rfl _) rfl rfl (aY [.tmp 8,.tmp 9,.tmp 10] rfl rfl PY rfl cr.ok) ⟨rfl,rfl,rfl,trivial⟩ λ_=>?_;refine nt (sr (fr 2 ?_));refine aW rfl rfl (aS rfl IY rfl rfl rfl) ⟨rfl,rfl,trivial⟩ ?_;refine nt (ax (K7 zx ?_));refine bX (SE.fin (Γ':=[(6,_)]) [1,2,0] ⟨rfl,trivial⟩ rfl) ?_;exact aP () [.eq (.bool true)] 2 ⟨⟨_,_,_,_,_,rfl,(.tail _ (.tail _ (.head _))),IY,(λ_=>rfl),rfl⟩,trivial⟩ rfl
def gx(k:Nat)(a0:ae)(a1:Int):Option (List Int):=
 (lG k (vI (λ(y5:(List Int)) (p7:Int)=>
  (ij k a0 p7 a1).bind λr9=>
  if r9=true then((cN (cu (length y5+length [p7]))).bind λ_=>
  some (y5++[p7],true)) else(some (y5,true)))) a0.1 (([]:(List Int)),false)).bind λr8=>
 if r8.2=true then(none) else(some r8.1)
theorem j8(k:Nat)(a0:ae)(c z_a0:Nat)(a1:Int)(r:(List Int))(h:gx k a0 a1=some r):
 cj (dR Tryz.prog) 38 [Pt c,.eq (.int .u8 a1)] [.obj c 129 (aR a0 z_a0),.inv z_a0 (bW k a0)] (λ_:Unit=>(bJ [.rep (.slice (.int .u8)) r],[.obj c 129 (aR a0 z_a0),.inv z_a0 (bW k a0)])):=by
 unfold gx at h
 replace h:=bq h
 refine uS 23 Tryz.func38 rfl Tryz.ntmps38 rfl λS w0=>?_
 refine sr ?_
 refine bx λb1=>?_
 refine bx λb2=>?_
 refine cq ?_
 refine nt ?_
 refine sr ?_
 refine bg rfl rfl rfl (bI rfl IE KO) trivial λb3=>?_
 refine nt ?_
 refine ak ?_
 refine sr ?_
 refine fr 2 ?_
 refine lo IX ?_
 refine ja (cI rfl) ?_
 refine fl gC ?_
 refine fl gp ?_
 refine fr 3 ?_
 refine lo bV ?_
 refine bg rfl rfl rfl (av [.tmp 11] rfl rfl P5 rfl (qI a0.1)) ⟨rfl,trivial⟩ λb4=>?_
 refine nt ?_
 refine aj ?_
 refine jN (SE.nil 71 (.int .u8)) ?_
 refine dO 6 rfl ?_
 refine dO 6 rfl ?_
 refine dO 2 rfl ?_
 refine dO 6 rfl ?_
 refine dO 6 rfl ?_
 refine dO 6 rfl ?_
 refine dO 6 rfl ?_
 obtain⟨r8,s,h⟩:=aa h
 refine ri (Δ:=[.obj b4 3 (I a0.1),.obj c 129 (aR a0 z_a0),.obj b1 70 (Pt c),.obj b3 74 (.eq (.slice none 0 0)),.sl (.slice none 0 0) 71 (.int .u8) ([]:(List Int)),.obj b2 71 (.eq (.int .u8 a1)),.inv z_a0 (bW k a0)]) (F:=[]) (X:=Value) (J:=λ_=>OG r8.2) (E:=λz6=>[.obj b4 3 (I a0.1),.obj c 129 (aR a0 z_a0),.obj b1 70 (Pt c),.obj b3 74 (.eq z6),.sl z6 71 (.int .u8) r8.1,.obj b2 71 (.eq (.int .u8 a1)),.inv z_a0 (bW k a0)]) (r0:=λ_=>.tup .any) rfl rfl P1 (λrec hp ha hb hs hpe hN hv l=>?_) (λdl z6=>tO (λhj=>?_) (λhj=>?_))
 .
  rcases rec with⟨st0,pe0,fn0,tm0,ps0,as0,bd0,df0⟩;dsimp only at hp ha hb hs hpe hN hv;subst hp hs hpe;have vN:zI tm0 [(2,Pt b1),(3,Pt b2),(5,Pt b3)]:=⟨congrArg A.eq (hv 2 _ rfl).symm,congrArg A.eq (hv 3 _ rfl).symm,congrArg A.eq (hv 5 _ rfl).symm,trivial⟩;refine cj.pick (M:=(dR Tryz.prog)) [1,0,2,3,4,5,6,7] [1,0,2,3,4,5,6,7] (nS (λ(z6:Value) (q:(List Int)×Bool)=>[.raw l (.loop (jR ⟨.ready,none,fn0,tm0, #[13],as0,bd0,df0⟩ (OG q.2))),.obj c 129 (aR a0 z_a0),.obj b1 70 (Pt c),.obj b3 74 (.eq z6),.sl z6 71 (.int .u8) q.1,.obj b2 71 (.eq (.int .u8 a1)),.inv z_a0 (bW k a0)]) l (vI (λ(y5:(List Int)) (p7:Int)=>
  (ij k a0 p7 a1).bind λr9=>
  if r9=true then((cN (cu (length y5+length [p7]))).bind λ_=>
  some (y5++[p7],true)) else(some (y5,true)))) k a0.1 b4 (λz6 q p r' h=>?_) (.slice none 0 0) (([]:(List Int)),false) r8 s) rfl (λ_=>rfl) (λ_=>rfl)
  obtain⟨rq,hq,h2,rfl⟩:=tP h;obtain⟨y5,b5⟩:=q;obtain rfl:b5=false:=hq;replace h:=bq h2;obtain⟨p7,hpv⟩:∃x,x=p:=⟨_,rfl⟩;subst hpv;refine YT.pick (R':=(λz6:Value=>(.eq (.bool rq.2),[.raw l (.loop (jR ⟨.ready,none,fn0,tm0, #[13],as0,bd0,df0⟩ (OG (!rq.2)))),.obj c 129 (aR a0 z_a0),.obj b1 70 (Pt c),.obj b3 74 (.eq z6),.sl z6 71 (.int .u8) rq.1,.obj b2 71 (.eq (.int .u8 a1)),.inv z_a0 (bW k a0)]))) [0,1,2,3,4,5,6] [0,1,2,3,4,5,6] (HW ha hb (N:=23) (Γ:=[(2,Pt b1),(3,Pt b2),(5,Pt b3)]) rfl hN (by decide) vN (λS w=>?_)) rfl (λ_=>rfl) (λ_=>rfl);refine ab (aq (nl ?_));refine zP rfl rfl ?_;refine aj (sr (fr 2 ?_));refine lo IX ?_;refine mq ?_;refine fr 5 ?_;refine lo pw ?_;obtain⟨r9,n,h⟩:=aa h;refine fr 6 ?_;refine fr 4 ?_;refine aL (Δ:=[_,_]) (F:=_) (λ_ _ _=>ag rfl _) rfl rfl (aY [.tmp 14,.tmp 15,.tmp 16] rfl rfl RP rfl (nj k a0 c z_a0 p7 a1 r9 n)) ⟨rfl,rfl,rfl,trivial⟩ λ_=>?_;refine nt (cv h (λh=>?_) (λh=>?_))
  .refine ab (fr 5 ?_);refine lo wQ ?_;refine mq ?_;refine ja (bi (t:=(.int .u8)) [(.tmp 19,_)] [p7] rfl rfl I8 (.cons rfl .int .nil) rfl rfl) ?_;obtain⟨u,e,h⟩:=aa h;refine fr 6 ?_;refine ek rfl rfl rfl (cH rfl rfl I8 (ao e)) ⟨rfl,rfl,trivial⟩ λj=>?_;refine uO λo12=>?_;refine fr 1 ?_;refine aW rfl rfl (aS rfl wQ o12 rfl rfl) ⟨rfl,rfl,trivial⟩ ?_;refine aA (aX (bv 3 rfl ?_));refine bv 4 rfl ?_;refine bv 3 rfl ?_;refine bv 3 rfl ?_;refine bv 5 rfl ?_;refine bv 5 rfl ?_;refine bv 6 rfl ?_;cases h;exact oY j 6 rfl
  .refine bf (aX (bv 1 rfl ?_));refine bv 2 rfl ?_;refine bv 6 rfl ?_;refine bv 6 rfl ?_;refine bv 5 rfl ?_;refine bv 5 rfl ?_;refine bv 6 rfl ?_;cases h;exact oY z6 6 rfl
 .
  replace h:=cJ (IT hj) h;refine aX (tn (sr (fr 4 ?_)));refine lo wQ ?_;refine aq (nt (ax ?_));refine bv 5 rfl ?_;refine bX (qf (off:=0) [4,22] ⟨rfl,rfl,trivial⟩ rfl rfl) ?_;refine bv 1 rfl ?_;refine Dh ?_;refine bX (SE.fin (Γ':=[(4,_)]) [2,5,0,1,3,4] ⟨rfl,trivial⟩ rfl) ?_;cases h;exact aP () [_] 2 ⟨rfl,trivial⟩ rfl
 .
  replace h:=ec (IS hj) h;cases h
def jq(k:Nat)(r7:(List Int)):Nat->((List (List Int))×Int)->Option (List (List Int))
 |0,_=>none
 |n+1,y8=>
  if y8.2 < (r7.length:Int) then((aJ r7 y8.2).bind λh=>
  (iF k h).bind λc=>
  (cN (cu (length y8.1+length [c]))).bind λ_=>
  (ck (y8.2+1)).bind λe=>
  jq k r7 n (y8.1++[c],e)) else(some y8.1)
def pQ(k:Nat)(a0:ae):Option ((List (List Int))×Int):=
 (jA k a0 ([]:(List Int)) ([]:(List Int)) ([]:(List Int)) ([]:(List Int))).bind λr2=>
 fX r2.1 (if¬(r2.2.2=0) then(some (([]:(List (List Int))),r2.2.2)) else(none)) (λq3=>if¬(r2.2.2=0) then(some (([]:(List (List Int))),r2.2.2)) else((((gx k q3 0).bind λr7=>
 jq k r7 k (([]:(List (List Int))),0)):Option ((List (List Int)))).bind λx5=>
 some (x5,0)))
theorem vq(k:Nat)(a0:ae)(r:(List (List Int))×Int)(h:pQ k a0=some r):
 cj (dR Tryz.prog) 12 [.rep au a0] [] (λ_:Unit=>(bJ [.rep (.slice Tl) r.1,I r.2],[])):=by
 unfold pQ at h
 replace h:=bq h
 refine cj.of 33 Tryz.func12 rfl Tryz.ntmps12 rfl λS w0=>?_
 refine sr ?_
 refine bx λb1=>?_
 refine cq ?_
 refine cq ?_
 refine nt ?_
 refine sr ?_
 refine lo jP ?_
 obtain⟨r2,M,h⟩:=aa h
 have c:=lF k a0 ([]:(List Int)) ([]:(List Int)) ([]:(List Int)) ([]:(List Int)) r2 M
 rcases hr:r2.1 with _ |q3
 .
  rw [hr] at h c;replace h:=vv h;refine aL (Δ:=[]) (F:=_) (λ_ _ _=>ag rfl _) rfl rfl (bN (N:=[(.tmp 11,.rep au a0),(.const (.slice none 0 0),.eq (.slice none 0 0)),(.const (.slice none 0 0),.eq (.slice none 0 0)),(.const (.slice none 0 0),.eq (.slice none 0 0)),(.const (.slice none 0 0),.eq (.slice none 0 0))]) (aY [.tmp 11,.const (.slice none 0 0),.const (.slice none 0 0),.const (.slice none 0 0),.const (.slice none 0 0)] rfl rfl zm rfl c) λ_ _ _ hn=>⟨hn.1,(aF (t:=Tl) (x:=([]:(List Int))) .nil rfl rfl hn.2.1),(aF (t:=Tl) (x:=([]:(List Int))) .nil rfl rfl hn.2.2.1),(aF (t:=Tl) (x:=([]:(List Int))) .nil rfl rfl hn.2.2.2.1),(aF (t:=Tl) (x:=([]:(List Int))) .nil rfl rfl hn.2.2.2.2.1),trivial⟩) ⟨rfl,rfl,rfl,rfl,rfl,trivial⟩ λ_=>?_;refine mq ?_;refine xr ?_;refine xr ?_;refine xr ?_;refine aq ?_;refine aq ?_;refine aq (nt (ak (sr ?_)));refine mq ?_;refine jb (eZ rfl) ?_;refine nt (cn h (λh=>?_) (λh=>?_))
  .refine sr (mq ?_);refine cq ?_;refine aq (nt (rx ?_));refine bX (eB (t:=(.slice Tl)) (x:=([]:(List (List Int)))) 2 rfl .nil rfl rfl) ?_;cases h;exact rb
  .cases h
 .
  rw [hr] at h c;replace h:=vu h;refine aL (Δ:=[]) (F:=_) (λ_ _ _=>ag rfl _) rfl rfl (bN (N:=[(.tmp 11,.rep au a0),(.const (.slice none 0 0),.eq (.slice none 0 0)),(.const (.slice none 0 0),.eq (.slice none 0 0)),(.const (.slice none 0 0),.eq (.slice none 0 0)),(.const (.slice none 0 0),.eq (.slice none 0 0))]) (aY [.tmp 11,.const (.slice none 0 0),.const (.slice none 0 0),.const (.slice none 0 0),.const (.slice none 0 0)] rfl rfl zm rfl c) λ_ _ _ hn=>⟨hn.1,(aF (t:=Tl) (x:=([]:(List Int))) .nil rfl rfl hn.2.1),(aF (t:=Tl) (x:=([]:(List Int))) .nil rfl rfl hn.2.2.1),(aF (t:=Tl) (x:=([]:(List Int))) .nil rfl rfl hn.2.2.2.1),(aF (t:=Tl) (x:=([]:(List Int))) .nil rfl rfl hn.2.2.2.2.1),trivial⟩) ⟨rfl,rfl,rfl,rfl,rfl,trivial⟩ λz4=>?_;refine mq ?_;refine xr ?_;refine xr ?_;refine xr ?_;refine aq ?_;refine aq ?_;refine aq (nt (ak (sr ?_)));refine mq ?_;refine jb (eZ rfl) ?_;refine nt (cn h (λh=>?_) (λh=>?_))
  .refine sr (mq ?_);refine cq ?_;refine aq (nt (rx ?_));refine bX (eB (t:=(.slice Tl)) (x:=([]:(List (List Int)))) 2 rfl .nil rfl rfl) ?_;cases h;exact rb
  .refine sk (sr (cq (nt ?_)));refine aG (Z:=Value) (α:=(List (List Int))) (λz6 x5=>[(7,.eq z6)]) (λz6 x5=>[.sl z6 22 Tl x5,.inv z4.2 (bW k q3)]) h (λK h=>?_) (λz6 x5 h=>?_)
   .refine sr (mq ?_);obtain⟨r7,J,h⟩:=aa h;refine fr 1 ?_;refine fr 1 ?_;refine aL (Δ:=[_,_]) (F:=_) (λ_ _ _=>ag rfl _) rfl rfl (aY [.tmp 19,.const (.int .u8 (0))] rfl rfl P9 rfl (j8 k q3 z4.1 z4.2 0 r7 J)) ⟨rfl,rfl,trivial⟩ λ_=>?_;refine ol zZ ?_;refine fa rfl ?_;refine nt (aj (jN (SE.nil 22 Tl) ?_));refine aH (λz9 y8=>[(7,.eq z9),(20,.rep (.slice (.int .u8)) r7),(21,I (r7.length:Int)),(22,I y8.2)]) (λz9 y8=>[.sl z9 22 Tl y8.1,.inv z4.2 (bW k q3)]) (jq k r7) k (.slice none 0 0) (([]:(List (List Int))),0) (λ_=>rfl) h (SE.fin [0,2] ⟨rfl,rfl,rfl,rfl,trivial⟩ rfl) (λn z9 y8 h=>?_);unfold jq at h;refine sr (jb (bA rfl) ?_);refine nt (ak (ci h (λh=>?_) (λh=>?_)))
    .refine sk (ak (aj (sr ?_)));obtain⟨D,l,h⟩:=aa h;refine jb (aI (t:=(.int .u8)) rfl zZ pw l) ?_;refine ja (am (t:=(.int .u8)) rfl pw rfl) ?_;refine aq (nt (ab ?_));iterate 2 refine mq ?_
     obtain⟨e,u,h⟩:=aa h;refine ja (av [.tmp 27] rfl rfl NP rfl (jV k D e u)) ?_;refine ja (bi (t:=Tl) [(.tmp 28,_)] [e] rfl rfl o5 (.cons rfl .rep .nil) rfl rfl) ?_;obtain⟨O,s,h⟩:=aa h;refine ek rfl rfl rfl (cH rfl rfl o5 (ao s)) ⟨rfl,rfl,trivial⟩ λE=>?_;refine aq (aA (aX (tn (ab ?_))));obtain⟨y,j,h⟩:=aa h;refine jb (bo rfl j) ?_;refine mq (nl ?_);exact jz (E,(y8.1++[e],y)) h [0,1]
    .refine xa ?_;exact jz (z9,y8.1) h [0,1]
   .refine sr (mq ?_);refine aq ?_;refine cq (nt (ax ?_));refine bX (iR [2,7,32] ⟨rfl,rfl,rfl,trivial⟩) ?_;cases h;exact rb
def dZ(k:Nat)(a0:ae)(r5:(List (List Int)))(x9:Int):Nat->((List (List Int))×Int)->Option (List (List Int))
 |0,_=>none
 |n+1,c=>
  if c.2 < x9 then((aJ r5 c.2).bind λj=>
  (cN (0≤a0.1/\a0.1≤5)).bind λ_=>
  (gQ k (List.take (Int.toNat a0.1) j)).bind λe=>
  (cN (cu (length c.1+length [e]))).bind λ_=>
  (ck (c.2+1)).bind λh=>
  dZ k a0 r5 x9 n (c.1++[e],h)) else(some c.1)
def i9(k:Nat)(a0:ae)(a1:(List Int)):Option ((List (List Int))×Int):=
 (jA k a0 a1 ([]:(List Int)) ([]:(List Int)) ([]:(List Int))).bind λr2=>
 fX r2.1 (if¬(r2.2.2=0) then(some (([]:(List (List Int))),r2.2.2)) else(none)) (λq3=>if¬(r2.2.2=0) then(some (([]:(List (List Int))),r2.2.2)) else((lb k q3 r2.2.1).bind λr5=>
 (((ck ((a0.2.2.2.2.1.length:Int)+1)).bind λx9=>
 dZ k a0 r5 x9 k (([]:(List (List Int))),0)):Option ((List (List Int)))).bind λx7=>
 some (x7,0)))
theorem pm(k:Nat)(a0:ae)(a1:(List Int))(r:(List (List Int))×Int)(h:i9 k a0 a1=some r):
 cj (dR Tryz.prog) 13 [.rep au a0,.rep Tl a1] [] (λ_:Unit=>(bJ [.rep (.slice Tl) r.1,I r.2],[])):=by
 unfold i9 at h
 replace h:=bq h
 refine cj.of 43 Tryz.func13 rfl Tryz.ntmps13 rfl λS w0=>?_
 refine sr ?_
 refine bx λb1=>?_
 refine cq ?_
 refine cq ?_
 refine nt ?_
 refine sr ?_
 refine lo jP ?_
 refine mq ?_
 obtain⟨r2,X,h⟩:=aa h
 have j:=lF k a0 a1 ([]:(List Int)) ([]:(List Int)) ([]:(List Int)) r2 X
 rcases hr:r2.1 with _ |q3
 .
  rw [hr] at h j;replace h:=vv h;refine aL (Δ:=[]) (F:=_) (λ_ _ _=>ag rfl _) rfl rfl (bN (N:=[(.tmp 13,.rep au a0),(.tmp 14,.rep Tl a1),(.const (.slice none 0 0),.eq (.slice none 0 0)),(.const (.slice none 0 0),.eq (.slice none 0 0)),(.const (.slice none 0 0),.eq (.slice none 0 0))]) (aY [.tmp 13,.tmp 14,.const (.slice none 0 0),.const (.slice none 0 0),.const (.slice none 0 0)] rfl rfl zm rfl j) λ_ _ _ hn=>⟨hn.1,hn.2.1,(aF (t:=Tl) (x:=([]:(List Int))) .nil rfl rfl hn.2.2.1),(aF (t:=Tl) (x:=([]:(List Int))) .nil rfl rfl hn.2.2.2.1),(aF (t:=Tl) (x:=([]:(List Int))) .nil rfl rfl hn.2.2.2.2.1),trivial⟩) ⟨rfl,rfl,rfl,rfl,rfl,trivial⟩ λ_=>?_;refine mq ?_;refine xr ?_;refine xr ?_;refine xr ?_;refine aq ?_;refine aq ?_;refine aq (nt (ak (sr ?_)));refine mq ?_;refine jb (eZ rfl) ?_;refine nt (cn h (λh=>?_) (λh=>?_))
  .refine sr (mq ?_);refine cq ?_;refine aq (nt (rx ?_));refine bX (eB (t:=(.slice Tl)) (x:=([]:(List (List Int)))) 4 rfl .nil rfl rfl) ?_;cases h;exact rb
  .cases h
 .
  rw [hr] at h j;replace h:=vu h;refine aL (Δ:=[]) (F:=_) (λ_ _ _=>ag rfl _) rfl rfl (bN (N:=[(.tmp 13,.rep au a0),(.tmp 14,.rep Tl a1),(.const (.slice none 0 0),.eq (.slice none 0 0)),(.const (.slice none 0 0),.eq (.slice none 0 0)),(.const (.slice none 0 0),.eq (.slice none 0 0))]) (aY [.tmp 13,.tmp 14,.const (.slice none 0 0),.const (.slice none 0 0),.const (.slice none 0 0)] rfl rfl zm rfl j) λ_ _ _ hn=>⟨hn.1,hn.2.1,(aF (t:=Tl) (x:=([]:(List Int))) .nil rfl rfl hn.2.2.1),(aF (t:=Tl) (x:=([]:(List Int))) .nil rfl rfl hn.2.2.2.1),(aF (t:=Tl) (x:=([]:(List Int))) .nil rfl rfl hn.2.2.2.2.1),trivial⟩) ⟨rfl,rfl,rfl,rfl,rfl,trivial⟩ λz4=>?_;refine mq ?_;refine xr ?_;refine xr ?_;refine xr ?_;refine aq ?_;refine aq ?_;refine aq (nt (ak (sr ?_)));refine mq ?_;refine jb (eZ rfl) ?_;refine nt (cn h (λh=>?_) (λh=>?_))
  .refine sr (mq ?_);refine cq ?_;refine aq (nt (rx ?_));refine bX (eB (t:=(.slice Tl)) (x:=([]:(List (List Int)))) 4 rfl .nil rfl rfl) ?_;cases h;exact rb
  .refine sk (sr (cq (nt (sr ?_))));iterate 2 refine mq ?_
   obtain⟨r5,U,h⟩:=aa h;refine fr 1 ?_;refine fr 1 ?_;refine aL (Δ:=[_,_]) (F:=_) (λ_ _ _=>ag rfl _) rfl rfl (aY [.tmp 22,.tmp 23] rfl rfl Eb rfl (oN k q3 z4.1 z4.2 r2.2.1 r5 U)) ⟨rfl,rfl,trivial⟩ λ_=>?_;refine bg rfl rfl rfl (bI rfl EQ HT) trivial λb6=>?_;refine aW rfl rfl (aS rfl FB rfl rfl rfl) ⟨rfl,rfl,trivial⟩ ?_;refine eV (ji (t:=(.arr 7 Tr)) (x:=r5) [10] .rep ⟨rfl,trivial⟩) ?_;refine nt (aG (Z:=Value) (α:=(List (List Int))) (λz8 x7=>[(9,.eq z8)]) (λz8 x7=>[.sl z8 22 Tl x7,.inv z4.2 (bW k q3)]) h (λK h=>?_) (λz8 x7 h=>?_))
   .refine sr (fl dU ?_);refine fr 2 ?_;refine lo kh ?_;refine ol yi ?_;obtain⟨x9,Q,h⟩:=aa h;refine jb (bo rfl Q) ?_;refine fa rfl ?_;refine nt (aj (jN (SE.nil 22 Tl) ?_));refine aH (λe c=>[(2,Pt b1),(9,.eq e),(10,.at (.arr 7 Tr) r5),(28,I x9),(29,I c.2)]) (λe c=>[.obj b1 26 (.rep au a0),.sl e 22 Tl c.1,.inv z4.2 (bW k q3)]) (dZ k a0 r5 x9) k (.slice none 0 0) (([]:(List (List Int))),0) (λ_=>rfl) h (SE.fin [1,0,3] ⟨rfl,rfl,rfl,rfl,rfl,trivial⟩ rfl) (λn e c h=>?_);unfold dZ at h;refine sr (jb (bA rfl) ?_);refine nt (ak (ci h (λh=>?_) (λh=>?_)))
    .refine sk (ak (aj (sr (mq ?_))));refine aq (nt ?_);refine cP ?_;refine dm ?_;refine dm ?_;obtain⟨M,y,h⟩:=aa h;refine db (co (t:=Tr) rfl IB iV y) ?_;refine da (aK rfl gp) ?_;refine ea 0 (ay rfl bV pH rfl) ?_;obtain⟨mc,l,h⟩:=aa h;refine db (ve (t:=Ti) rfl Bm bV (ao l).1 (ao l).2) ?_;obtain⟨s,E,h⟩:=aa h;refine da (C9 (av [.tmp 37] rfl rfl Sr rfl (rz k (List.take (Int.toNat a0.1) M) s E))) ?_;refine da (bi (t:=Tl) [(.tmp 38,_)] [s] rfl rfl o5 (.cons rfl .rep .nil) rfl rfl) ?_;refine df dN ?_;obtain⟨Y,D,h⟩:=aa h;refine fr 1 ?_;refine ek rfl rfl rfl (cH rfl rfl o5 (ao D)) ⟨rfl,rfl,trivial⟩ λO=>?_;refine aq (aA (aX (tn (ab ?_))));obtain⟨J,u,h⟩:=aa h;refine jb (bo rfl u) ?_;refine mq (nl ?_);exact jz (O,(c.1++[s],J)) h [1,0,2]
    .refine xa ?_;exact jz (e,c.1) h [1,2]
   .refine sr (mq ?_);refine aq ?_;refine cq (nt (ax ?_));refine bX (iR [4,9,42] ⟨rfl,rfl,rfl,trivial⟩) ?_;cases h;exact rb
def mg(k:Nat)(a0:ae)(a1:(List Int))(a2:(List Int))(a3:(List Int)):Option ((Option ae)×(List Int)×Int):=
 (jA k a0 ([]:(List Int)) a1 a2 a3).bind λr2=>
 fX r2.1 (if¬(r2.2.2=0) then(some (none,([]:(List Int)),r2.2.2)) else(none)) (λq3=>if¬(r2.2.2=0) then(some (none,([]:(List Int)),r2.2.2)) else((gx k q3 0).bind λr5=>
 if(r5.length:Int)=0 then(some (none,([]:(List Int)),9)) else(some (some q3,r5,0))))
theorem mN(k:Nat)(a0:ae)(a1:(List Int))(a2:(List Int))(a3:(List Int))(r:(Option ae)×(List Int)×Int)(h:mg k a0 a1 a2 a3=some r):
 cj (dR Tryz.prog) 42 [.rep au a0,.rep Tl a1,.rep Tl a2,.rep Tl a3] [] (λz:Nat×Nat=>(bJ [Ji r.1 z.1,.rep (.slice (.int .u8)) r.2.1,I r.2.2],Jh r.1 λq=>qh q z.1 z.2 k)):=by
 unfold mg at h
 replace h:=bq h
 refine cj.of 34 Tryz.func42 rfl Tryz.ntmps42 rfl λS w0=>?_
 refine sr ?_
 refine bx λb1=>?_
 refine cq ?_
 refine cq ?_
 refine cq ?_
 refine nt ?_
 refine sr ?_
 refine lo jP ?_
 iterate 3 refine mq ?_
 obtain⟨r2,j,h⟩:=aa h
 have c:=lF k a0 ([]:(List Int)) a1 a2 a3 r2 j
 rcases hr:r2.1 with _ |q3
 .
  rw [hr] at h c;replace h:=vv h;refine aL (Δ:=[]) (F:=_) (λ_ _ _=>ag rfl _) rfl rfl (bN (N:=[(.tmp 16,.rep au a0),(.const (.slice none 0 0),.eq (.slice none 0 0)),(.tmp 17,.rep Tl a1),(.tmp 18,.rep Tl a2),(.tmp 19,.rep Tl a3)]) (aY [.tmp 16,.const (.slice none 0 0),.tmp 17,.tmp 18,.tmp 19] rfl rfl zm rfl c) λ_ _ _ hn=>⟨hn.1,(aF (t:=Tl) (x:=([]:(List Int))) .nil rfl rfl hn.2.1),hn.2.2.1,hn.2.2.2.1,hn.2.2.2.2.1,trivial⟩) ⟨rfl,rfl,rfl,rfl,rfl,trivial⟩ λ_=>?_;refine mq ?_;refine xr ?_;refine xr ?_;refine xr ?_;refine aq ?_;refine aq ?_;refine aq (nt (ak (sr ?_)));refine mq ?_;refine jb (eZ rfl) ?_;refine nt (cn h (λh=>?_) (λh=>?_))
  .refine sr (mq ?_);refine cq ?_;refine cq ?_;refine aq (nt (rx ?_));refine bX (eB (t:=(.slice (.int .u8))) (x:=([]:(List Int))) 9 rfl .nil rfl rfl) ?_;cases h;exact aP (0,0) [.eq (.pointer none),_,_] 0 ⟨rfl,rfl,rfl,trivial⟩ rfl
  .cases h
 .
  rw [hr] at h c;replace h:=vu h;refine aL (Δ:=[]) (F:=_) (λ_ _ _=>ag rfl _) rfl rfl (bN (N:=[(.tmp 16,.rep au a0),(.const (.slice none 0 0),.eq (.slice none 0 0)),(.tmp 17,.rep Tl a1),(.tmp 18,.rep Tl a2),(.tmp 19,.rep Tl a3)]) (aY [.tmp 16,.const (.slice none 0 0),.tmp 17,.tmp 18,.tmp 19] rfl rfl zm rfl c) λ_ _ _ hn=>⟨hn.1,(aF (t:=Tl) (x:=([]:(List Int))) .nil rfl rfl hn.2.1),hn.2.2.1,hn.2.2.2.1,hn.2.2.2.2.1,trivial⟩) ⟨rfl,rfl,rfl,rfl,rfl,trivial⟩ λz4=>?_;refine mq ?_;refine xr ?_;refine xr ?_;refine xr ?_;refine aq ?_;refine aq ?_;refine aq (nt (ak (sr ?_)));refine mq ?_;refine jb (eZ rfl) ?_;refine nt (cn h (λh=>?_) (λh=>?_))
  .refine sr (mq ?_);refine cq ?_;refine cq ?_;refine aq (nt (rx ?_));refine bX (eB (t:=(.slice (.int .u8))) (x:=([]:(List Int))) 9 rfl .nil rfl rfl) ?_;cases h;exact aP (0,0) [.eq (.pointer none),_,_] 0 ⟨rfl,rfl,rfl,trivial⟩ rfl
  .refine sk (sr (mq ?_));obtain⟨r5,e,h⟩:=aa h;refine fr 1 ?_;refine fr 1 ?_;refine aL (Δ:=[_,_]) (F:=_) (λ_ _ _=>ag rfl _) rfl rfl (aY [.tmp 27,.const (.int .u8 (0))] rfl rfl P9 rfl (j8 k q3 z4.1 z4.2 0 r5 e)) ⟨rfl,rfl,trivial⟩ λ_=>?_;refine aq (nt (ak (sr ?_)));refine mq ?_;refine ol zZ ?_;refine jb (iD rfl) ?_;refine nt (ci h (λh=>?_) (λh=>?_))
   .refine sr (cq ?_);refine cq ?_;refine cq (nt (rx ?_));refine bX (eB (t:=(.slice (.int .u8))) (x:=([]:(List Int))) 9 rfl .nil rfl rfl) ?_;cases h;exact aP (0,0) [.eq (.pointer none),_,_] 0 ⟨rfl,rfl,rfl,trivial⟩ rfl
   .refine sk (sr ?_);iterate 2 refine mq ?_
    refine aq ?_;refine aq ?_;refine cq (nt (ax ?_));cases h;exact aP (z4.1,z4.2) [.eq (.pointer (some ⟨z4.1,0,none⟩)),_,_] 2 ⟨rfl,rfl,rfl,trivial⟩ rfl
def dA(k:Nat)(a2:Int)(r1:(List (List Int)))(x5:Int):Nat->Int->Option (Except Int Unit)
 |0,_=>none
 |n+1,y6=>
  if y6 < x5 then((aJ r1 y6).bind λx8=>
  (aJ x8 a2).bind λx9=>
  if 0≤x9 then(some (.error y6)) else((ck (y6+1)).bind λc=>
  dA k a2 r1 x5 n c)) else(some (.ok ()))
def eE(k:Nat)(a0:ae)(a1:Int)(a2:Int):Option Int:=
 (lb k a0 a1).bind λr1=>
 bE (α:=Unit) ((ck ((a0.2.2.2.2.1.length:Int)+1)).bind λx5=>
 dA k a2 r1 x5 k 0) (some) λ_=>
 some (-1:Int)
theorem kU(k:Nat)(a0:ae)(c z_a0:Nat)(a1:Int)(a2:Int)(r:Int)(h:eE k a0 a1 a2=some r):
 cj (dR Tryz.prog) 44 [Pt c,.eq (.int .u8 a1),I a2] [.obj c 129 (aR a0 z_a0),.inv z_a0 (bW k a0)] (λ_:Unit=>(bJ [I r],[.obj c 129 (aR a0 z_a0),.inv z_a0 (bW k a0)])):=by
 unfold eE at h
 replace h:=bq h
 refine cj.of 30 Tryz.func44 rfl Tryz.ntmps44 rfl λS w0=>?_
 refine sr ?_
 refine cq ?_
 refine nt ?_
 refine sr ?_
 iterate 2 refine mq ?_
 obtain⟨r1,D,h⟩:=aa h
 have E:=oN k a0 c z_a0 a1 r1 D
 refine fr 1 ?_
 refine fr 1 ?_
 refine aL (Δ:=[_,_]) (F:=_) (λ_ _ _=>ag rfl _) rfl rfl (aY [.tmp 9,.tmp 10] rfl rfl Eb rfl E) ⟨rfl,rfl,trivial⟩ λ_=>?_
 refine bg rfl rfl rfl (bI rfl EQ HT) trivial λb2=>?_
 refine aW rfl rfl (aS rfl FB rfl rfl rfl) ⟨rfl,rfl,trivial⟩ ?_
 refine eV (ji (t:=(.arr 7 Tr)) (x:=r1) [7] .rep ⟨rfl,trivial⟩) ?_
 refine nt ?_
 refine c7 (Z:=Unit) (α:=Unit) (λz4 x3=>[]) (λz4 x3=>[.obj c 129 (aR a0 z_a0),.inv z_a0 (bW k a0)]) (λe=>e=r) h (λe h=>Option.some.inj h) (λK hR h=>?_) (λz4 x3 h=>?_)
 .
  refine sr (mq ?_);refine ja (cI rfl) ?_;refine fl gC ?_;refine fl dU ?_;refine lo kh ?_;refine ol yi ?_;obtain⟨x5,y,h⟩:=aa h;refine jb (bo rfl y) ?_;refine fa rfl ?_;refine nt (aj (aH (λz7 y6=>[(2,I a2),(7,.at (.arr 7 Tr) r1),(18,I x5),(19,I y6)]) (λz7 y6=>[.obj c 129 (aR a0 z_a0),.inv z_a0 (bW k a0)]) (dA k a2 r1 x5) k () 0 (λ_=>rfl) h (SE.fin [0,1] ⟨rfl,rfl,rfl,rfl,trivial⟩ rfl) (λn z7 y6 h=>?_)));unfold dA at h;refine sr (jb (bA rfl) ?_);refine nt (ak (ci h (λh=>?_) (λh=>?_)))
  .refine sk (ak (aj (sr (mq ?_))));refine aq (nt (sr ?_));iterate 2 refine mq ?_
   obtain⟨x8,u,h⟩:=aa h;refine jb (co (t:=Tr) rfl IB iV u) ?_;obtain⟨x9,s,h⟩:=aa h;refine jb (co (t:=Ti) rfl Bm bV s) ?_;refine ja (am (t:=Ti) rfl bV rfl) ?_;refine jb (iC rfl) ?_;refine nt (ci h (λh=>?_) (λh=>?_))
   .refine sr (mq ?_);refine aq (nt (ax (br (ba (aZ ?_)))));obtain rfl:=hR _ h;exact aP () [_] 2 ⟨rfl,trivial⟩ rfl
   .refine bf (aX (tn (ab ?_)));obtain⟨l,j,h⟩:=aa h;refine jb (bo rfl j) ?_;refine mq (nl ?_);exact jz ((),l) h [0,1]
  .refine xa ?_;exact jz ((),()) h [0,1]
 .
  refine sr (cq (nt (ax ?_)));cases h;exact aP () [_] 2 ⟨rfl,trivial⟩ rfl
def km(k:Nat)(a1:Int)(r3:(Option ae)×(List Int)×Int)(q4:ae):Nat->((List Int)×Int)->Option (List Int)
 |0,_=>none
 |n+1,y8=>
  if y8.2 < (r3.2.1.length:Int) then((((aJ r3.2.1 y8.2).bind λh=>
  (eE k q4 h a1).bind λc=>
  if 0≤c then((cN (cu (length y8.1+length [c]))).bind λ_=>
  some (y8.1++[c])) else(some y8.1)):Option ((List Int))).bind λj=>
  (ck (y8.2+1)).bind λe=>
  km k a1 r3 q4 n (j,e)) else(some y8.1)
def rT(k:Nat)(a0:ae)(a1:Int):Option (fp×Int):=
 (mg k a0 [a1] ([]:(List Int)) ([]:(List Int))).bind λr3=>
 fX r3.1 (if¬(r3.2.2=0) then(some ((0,0),r3.2.2)) else(none)) (λq4=>if¬(r3.2.2=0) then(some ((0,0),r3.2.2)) else(((km k a1 r3 q4 k (([]:(List Int)),0)):Option ((List Int))).bind λx6=>
 if(x6.length:Int)=0 then(some ((0,0),11)) else((lA k x6).bind λe=>
 (nE k x6).bind λc=>
 some ((e,c),0))))
theorem xk(k:Nat)(a0:ae)(a1:Int)(r:fp×Int)(h:rT k a0 a1=some r):
 cj (dR Tryz.prog) 16 [.rep au a0,I a1] [] (λ_:Unit=>(bJ [.rep bM r.1,I r.2],[])):=by
 unfold rT at h
 replace h:=bq h
 refine cj.of 51 Tryz.func16 rfl Tryz.ntmps16 rfl λS w0=>?_
 refine sr ?_
 refine bx λb1=>?_
 refine bg rfl rfl rfl (bI rfl Aa Qo) trivial λb2=>?_
 refine cq ?_
 refine nt ?_
 refine sr ?_
 refine fr 1 ?_
 refine lo jP ?_
 refine mq ?_
 refine ja (bi (t:=Ti) [(.tmp 15,_)] [a1] rfl rfl dy (.cons rfl .int .nil) rfl rfl) ?_
 obtain⟨r3,Y,h⟩:=aa h
 have s:=mN k a0 [a1] ([]:(List Int)) ([]:(List Int)) r3 Y
 rcases hr:r3.1 with _ |q4
 .
  rw [hr] at h s;replace h:=vv h;refine aL (Δ:=[]) (F:=_) (λ_ _ _=>ag rfl _) rfl rfl (bN (N:=[(.tmp 14,.rep au a0),(.tmp 16,.rep Tl [a1]),(.const (.slice none 0 0),.eq (.slice none 0 0)),(.const (.slice none 0 0),.eq (.slice none 0 0))]) (aY [.tmp 14,.tmp 16,.const (.slice none 0 0),.const (.slice none 0 0)] rfl rfl Ea rfl s) λ_ _ _ hn=>⟨hn.1,hn.2.1,(aF (t:=Tl) (x:=([]:(List Int))) .nil rfl rfl hn.2.2.1),(aF (t:=Tl) (x:=([]:(List Int))) .nil rfl rfl hn.2.2.2.1),trivial⟩) ⟨rfl,rfl,rfl,rfl,trivial⟩ λ_=>?_;refine mq ?_;refine xr ?_;refine xr ?_;refine xr ?_;refine aq ?_;refine aq ?_;refine aq (nt (ak (sr ?_)));refine mq ?_;refine jb (eZ rfl) ?_;refine nt (cn h (λh=>?_) (λh=>?_))
  .refine sr (bZ rfl (ee [] rfl F9 Aa zE (j7 trivial) rfl) trivial ?_);refine mq ?_;refine fr 1 ?_;refine aW rfl rfl (aS rfl vc trivial rfl rfl) ⟨rfl,rfl,trivial⟩ ?_;refine aq (nt (rx ?_));refine bX (ju (a:=.agg (.pair (I 0) (I 0))) (a':=.rep bM (0,0)) (sN (.agg (.pair .int .int)))) ?_;cases h;exact aP () [.rep bM (0,0),_] 0 ⟨⟨_,_,_,_,_,rfl,(.head _),vc,(vk),rfl⟩,rfl,trivial⟩ rfl
  .cases h
 .
  rw [hr] at h s;replace h:=vu h;refine aL (Δ:=[]) (F:=_) (λ_ _ _=>ag rfl _) rfl rfl (bN (N:=[(.tmp 14,.rep au a0),(.tmp 16,.rep Tl [a1]),(.const (.slice none 0 0),.eq (.slice none 0 0)),(.const (.slice none 0 0),.eq (.slice none 0 0))]) (aY [.tmp 14,.tmp 16,.const (.slice none 0 0),.const (.slice none 0 0)] rfl rfl Ea rfl s) λ_ _ _ hn=>⟨hn.1,hn.2.1,(aF (t:=Tl) (x:=([]:(List Int))) .nil rfl rfl hn.2.2.1),(aF (t:=Tl) (x:=([]:(List Int))) .nil rfl rfl hn.2.2.2.1),trivial⟩) ⟨rfl,rfl,rfl,rfl,trivial⟩ λz5=>?_;refine mq ?_;refine xr ?_;refine xr ?_;refine xr ?_;refine aq ?_;refine aq ?_;refine aq (nt (ak (sr ?_)));refine mq ?_;refine jb (eZ rfl) ?_;refine nt (cn h (λh=>?_) (λh=>?_))
  .refine sr (bZ rfl (ee [] rfl F9 Aa zE (j7 trivial) rfl) trivial ?_);refine mq ?_;refine fr 3 ?_;refine aW rfl rfl (aS rfl vc trivial rfl rfl) ⟨rfl,rfl,trivial⟩ ?_;refine aq (nt (rx ?_));refine bX (ju (a:=.agg (.pair (I 0) (I 0))) (a':=.rep bM (0,0)) (sN (.agg (.pair .int .int)))) ?_;cases h;exact aP () [.rep bM (0,0),_] 0 ⟨⟨_,_,_,_,_,rfl,(.head _),vc,(vk),rfl⟩,rfl,trivial⟩ rfl
  .refine sk (sr (cq (nt ?_)));refine aG (Z:=Value) (α:=(List Int)) (λz7 x6=>[(4,Pt b2),(9,.eq z7)]) (λz7 x6=>[.obj b2 39 (.agg (.pair (I 0) (I 0))),.sl z7 3 Ti x6,.inv z5.2 (bW k q4)]) h (λK h=>?_) (λz7 x6 h=>?_)
   .refine sr (mq ?_);refine ol zZ ?_;refine fa rfl ?_;refine nt (aj (jN (SE.nil 3 Ti) ?_));refine aH (λz9 y8=>[(1,I a1),(4,Pt b2),(6,.eq (.pointer (some ⟨z5.1,0,none⟩))),(9,.eq z9),(25,.rep (.slice (.int .u8)) r3.2.1),(26,I (r3.2.1.length:Int)),(27,I y8.2)]) (λz9 y8=>[.obj b2 39 (.agg (.pair (I 0) (I 0))),.obj z5.1 129 (aR q4 z5.2),.sl z9 3 Ti y8.1,.inv z5.2 (bW k q4)]) (km k a1 r3 q4) k (.slice none 0 0) (([]:(List Int)),0) (λ_=>rfl) h (SE.fin [4,1,0,2] ⟨rfl,rfl,rfl,rfl,rfl,rfl,rfl,trivial⟩ rfl) (λn z9 y8 h=>?_);unfold km at h;refine sr (jb (bA rfl) ?_);refine nt (ak (ci h (λh=>?_) (λh=>?_)))
    .refine sk (aG (Z:=Value) (α:=(List Int)) (λc e=>[(1,I a1),(4,Pt b2),(6,.eq (.pointer (some ⟨z5.1,0,none⟩))),(9,.eq c),(25,.rep (.slice (.int .u8)) r3.2.1),(26,I (r3.2.1.length:Int)),(27,I y8.2)]) (λc e=>[.obj b2 39 (.agg (.pair (I 0) (I 0))),.obj z5.1 129 (aR q4 z5.2),.sl c 3 Ti e,.inv z5.2 (bW k q4)]) h (λK h=>?_) (λc e h=>?_))
     .refine aj (sr ?_);obtain⟨U,D,h⟩:=aa h;refine jb (aI (t:=(.int .u8)) rfl zZ pw D) ?_;refine ja (am (t:=(.int .u8)) rfl pw rfl) ?_;refine aq (nt (sr ?_));iterate 3 refine mq ?_
      obtain⟨u,O,h⟩:=aa h;refine fr 3 ?_;refine fr 2 ?_;refine aL (Δ:=[_,_]) (F:=_) (λ_ _ _=>ag rfl _) rfl rfl (aY [.tmp 31,.tmp 32,.tmp 33] rfl rfl P8 rfl (kU k q4 z5.1 z5.2 U a1 u O)) ⟨rfl,rfl,rfl,trivial⟩ λ_=>?_;refine aq (nt (sr ?_));refine mq ?_;refine jb (iC rfl) ?_;refine nt (ci h (λh=>?_) (λh=>?_))
      .refine ab ?_;iterate 2 refine mq ?_
       refine ja (bi (t:=Ti) [(.tmp 38,_)] [u] rfl rfl dy (.cons rfl .int .nil) rfl rfl) ?_;obtain⟨mc,E,h⟩:=aa h;refine fr 3 ?_;refine ek rfl rfl rfl (cH rfl rfl dy (ao E)) ⟨rfl,rfl,trivial⟩ λX=>?_;refine aq (aA (bn ?_));exact jz (X,y8.1++[u]) h [3,1,0,2]
      .refine bf (bn ?_);exact jz (z9,y8.1) h [2,0,3,1]
     .refine ab ?_;obtain⟨Q,y,h⟩:=aa h;refine jb (bo rfl y) ?_;refine mq (nl ?_);exact jz (c,(e,Q)) h [0,1,2,3]
    .refine xa ?_;exact jz (z9,y8.1) h [0,2,3]
   .refine ak (sr (mq ?_));refine fr 1 ?_;refine ka (ma rfl rfl fM) ?_;refine jb (iD rfl) ?_;refine nt (ci h (λh=>?_) (λh=>?_))
    .refine sr (bZ rfl (ee [] rfl F9 Aa zE (j7 trivial) rfl) trivial ?_);refine fr 1 ?_;refine aW rfl rfl (aS rfl vc trivial rfl rfl) ⟨rfl,rfl,trivial⟩ ?_;refine cq (nt (rx ?_));refine bX (ju (a:=.agg (.pair (I 0) (I 0))) (a':=.rep bM (0,0)) (sN (.agg (.pair .int .int)))) ?_;cases h;exact aP () [.rep bM (0,0),_] 0 ⟨⟨_,_,_,_,_,rfl,(.head _),vc,(vk),rfl⟩,rfl,trivial⟩ rfl
    .refine sk (sr (mq ?_));obtain⟨l,M,h⟩:=aa h;refine ka (ll (N:=[(.tmp 46,.eq z7)]) (av [.tmp 46] rfl rfl P7 rfl (nD k x6 l M)) (λ_ _ _ hv hn=>⟨(lend hn.1 hv),trivial⟩) (λ_=>⟨rfl,nW⟩)) ?_;refine mq ?_;obtain⟨j,J,h⟩:=aa h;refine ka (ll (N:=[(.tmp 48,.eq z7)]) (av [.tmp 48] rfl rfl Sl rfl (tR k x6 j J)) (λ_ _ _ hv hn=>⟨(lend hn.1 hv),trivial⟩) (λ_=>⟨rfl,nW⟩)) ?_;refine jb (ee [(0,.tmp 47,_),(1,.tmp 49,_)] rfl F9 Aa zE (j7 ⟨rfl,rfl,trivial⟩) rfl) ?_;refine fr 1 ?_;refine aW rfl rfl (aS rfl vc trivial rfl rfl) ⟨rfl,rfl,trivial⟩ ?_;refine cq (nt (ax ?_));refine bX (ju (a:=.agg (.pair (I l) (I j))) (a':=.rep bM (l,j)) (sN (.agg (.pair .int .int)))) ?_;cases h;exact aP () [.rep bM (l,j),_] 0 ⟨⟨_,_,_,_,_,rfl,(.head _),vc,(vk),rfl⟩,rfl,trivial⟩ rfl
def jm(k:Nat)(a1:Int)(a2:Int)(y4:(List (List (List Int)))×Int)(h:(List Int)):Nat->((List Int)×Int)->Option (List Int)
 |0,_=>none
 |n+1,c=>
  if c.2 < (h.length:Int) then((((aJ h c.2).bind λe=>
  ((if y4.2 < a1 then(some true) else((eK k a2 e).bind λs=>
  some (!s))):Option (Bool)).bind λl=>
  if l=true then((cN (cu (length c.1+length [e]))).bind λ_=>
  some (c.1++[e])) else(some c.1)):Option ((List Int))).bind λr=>
  (ck (c.2+1)).bind λj=>
  jm k a1 a2 y4 h n (r,j)) else(some c.1)
def jo(k:Nat)(a1:Int)(a2:Int)(y4:(List (List (List Int)))×Int)(x8:(List (List Int))):Nat->((List (List Int))×Int)->Option (List (List Int))
 |0,_=>none
 |n+1,c=>
  if c.2 < (x8.length:Int) then((((aJ x8 c.2).bind λj=>
  ((jm k a1 a2 y4 j k (([]:(List Int)),0)):Option ((List Int))).bind λe=>
  (cN (cu (length c.1+length [e]))).bind λ_=>
  some (c.1++[e])):Option ((List (List Int)))).bind λl=>
  (ck (c.2+1)).bind λh=>
  jo k a1 a2 y4 x8 n (l,h)) else(some c.1)
def jp(k:Nat)(a0:ae)(a1:Int)(a2:Int):Nat->((List (List (List Int)))×Int)->Option (List (List (List Int)))
 |0,_=>none
 |n+1,y4=>
  if y4.2 < (a0.2.2.2.2.1.length:Int) then((((aJ a0.2.2.2.2.1 y4.2).bind λx8=>
  ((jo k a1 a2 y4 x8 k (([]:(List (List Int))),0)):Option ((List (List Int)))).bind λx9=>
  (cN (cu (length y4.1+length [x9]))).bind λ_=>
  some (y4.1++[x9])):Option ((List (List (List Int))))).bind λx6=>
  (ck (y4.2+1)).bind λc=>
  jp k a0 a1 a2 n (x6,c)) else(some y4.1)
def mO(k:Nat)(a0:ae)(a1:Int)(a2:Int):Option (Option ae):=
 ((jp k a0 a1 a2 k (([]:(List (List (List Int)))),0)):Option ((List (List (List Int))))).bind λx2=>
 (iG k (a0.1,a0.2.1,a0.2.2.1,a0.2.2.2.1,x2,a0.2.2.2.2.2)).bind λc=>
 fX c (some none) (λe=>some (some e))
theorem vn(k:Nat)(a0:ae)(a1:Int)(a2:Int)(r:(Option ae))(h:mO k a0 a1 a2=some r):
 dF Tryz.prog 53 [.rep au a0,I a1,.eq (.int .u8 a2)] [] (λz:Nat×Nat=>(bJ [Ji r z.1],Jh r λq=>qh q z.1 z.2 k)):=by
 unfold mO at h
 replace h:=bq h
 refine dF.of 69 Tryz.func53 rfl Tryz.ntmps53 rfl λS w0=>?_
 refine sr ?_
 refine bx λb1=>?_
 refine cq ?_
 refine nt ?_
 refine sr ?_
 refine fl dU ?_
 refine lo kh ?_
 refine mq ?_
 refine ja (rI [.tmp 19] [] [(.int .u8 a2)] [] rfl rfl rfl) ?_
 refine aq ?_
 refine aq ?_
 refine nt ?_
 refine sr ?_
 refine fl dU ?_
 refine aW rfl rfl (aS rfl kh rfl rfl rfl) ⟨rfl,rfl,trivial⟩ ?_
 refine nt ?_
 refine aG (Z:=Value) (α:=(List (List (List Int)))) (λz3 x2=>[(3,Pt b1)]) (λz3 x2=>[.obj b1 26 (.agg (.pair (I a0.1) (.pair (I a0.2.1) (.pair (I a0.2.2.1) (.pair (I a0.2.2.2.1) (.pair (.eq z3) (Rs bR a0.2.2.2.2.2))))))),.sl z3 30 (.slice Tl) x2]) h (λK h=>?_) (λz3 x2 h=>?_)
 .
  refine sr (mq ?_);refine ol yi ?_;refine fa rfl ?_;refine nt (aj (jN (SE.nil 30 (.slice Tl)) ?_));refine dO 1 rfl ?_;refine jN (ju (a:=.agg (.pair (.rep Ti a0.1) (.pair (.rep Ti a0.2.1) (.pair (.rep Ti a0.2.2.1) (.pair (.rep Ti a0.2.2.2.1) (.pair (.eq (.slice none 0 0)) (Rs bR a0.2.2.2.2.2))))))) (a':=.agg (.pair (I a0.1) (.pair (I a0.2.1) (.pair (I a0.2.2.1) (.pair (I a0.2.2.2.1) (.pair (.eq (.slice none 0 0)) (Rs bR a0.2.2.2.2.2))))))) (AE.agg (AE.pair AE.int (AE.pair AE.int (AE.pair AE.int (AE.pair AE.int AE.rfl)))))) ?_;refine aH (λz5 y4=>[(1,I a1),(3,Pt b1),(8,.eq (.func (.func 75) #[(.int .u8 a2)] #[])),(22,.rep (.slice (.slice Tl)) a0.2.2.2.2.1),(23,I (a0.2.2.2.2.1.length:Int)),(24,I y4.2)]) (λz5 y4=>[.obj b1 26 (.agg (.pair (I a0.1) (.pair (I a0.2.1) (.pair (I a0.2.2.1) (.pair (I a0.2.2.2.1) (.pair (.eq z5) (Rs bR a0.2.2.2.2.2))))))),.sl z5 30 (.slice Tl) y4.1]) (jp k a0 a1 a2) k (.slice none 0 0) (([]:(List (List (List Int)))),0) (λ_=>rfl) h (SE.fin [0,1] ⟨rfl,rfl,rfl,rfl,rfl,rfl,trivial⟩ rfl) (λn z5 y4 h=>?_);unfold jp at h;refine sr (jb (bA rfl) ?_);refine nt (ak (ci h (λh=>?_) (λh=>?_)))
  .refine sk (aG (Z:=Value) (α:=(List (List (List Int)))) (λz7 x6=>[(1,I a1),(3,Pt b1),(8,.eq (.func (.func 75) #[(.int .u8 a2)] #[])),(22,.rep (.slice (.slice Tl)) a0.2.2.2.2.1),(23,I (a0.2.2.2.2.1.length:Int)),(24,I y4.2)]) (λz7 x6=>[.obj b1 26 (.agg (.pair (I a0.1) (.pair (I a0.2.1) (.pair (I a0.2.2.1) (.pair (I a0.2.2.2.1) (.pair (.eq z7) (Rs bR a0.2.2.2.2.2))))))),.sl z7 30 (.slice Tl) x6]) h (λK h=>?_) (λz7 x6 h=>?_))
   .refine aj (sr (mq ?_));obtain⟨x8,Uj,h⟩:=aa h;refine jb (aI (t:=(.slice Tl)) rfl yi sZ Uj) ?_;refine ja (am (t:=(.slice Tl)) rfl sZ rfl) ?_;refine aq ?_;refine aq (nt (sr ?_));refine cq (nt ?_);refine aG (Z:=Value) (α:=(List (List Int))) (λQ x9=>[(1,I a1),(3,Pt b1),(8,.eq (.func (.func 75) #[(.int .u8 a2)] #[])),(11,.eq Q),(22,.rep (.slice (.slice Tl)) a0.2.2.2.2.1),(23,I (a0.2.2.2.2.1.length:Int)),(24,I y4.2)]) (λQ x9=>[.obj b1 26 (.agg (.pair (I a0.1) (.pair (I a0.2.1) (.pair (I a0.2.2.1) (.pair (I a0.2.2.2.1) (.pair (.eq z5) (Rs bR a0.2.2.2.2.2))))))),.sl z5 30 (.slice Tl) y4.1,.sl Q 22 Tl x9]) h (λK h=>?_) (λQ x9 h=>?_)
    .refine sr (mq ?_);refine ol qY ?_;refine fa rfl ?_;refine nt (aj (jN (SE.nil 22 Tl) ?_));refine aH (λe c=>[(1,I a1),(3,Pt b1),(8,.eq (.func (.func 75) #[(.int .u8 a2)] #[])),(9,I y4.2),(11,.eq e),(22,.rep (.slice (.slice Tl)) a0.2.2.2.2.1),(23,I (a0.2.2.2.2.1.length:Int)),(24,I y4.2),(29,.rep (.slice Tl) x8),(30,I (x8.length:Int)),(31,I c.2)]) (λe c=>[.obj b1 26 (.agg (.pair (I a0.1) (.pair (I a0.2.1) (.pair (I a0.2.2.1) (.pair (I a0.2.2.2.1) (.pair (.eq z5) (Rs bR a0.2.2.2.2.2))))))),.sl z5 30 (.slice Tl) y4.1,.sl e 22 Tl c.1]) (jo k a1 a2 y4 x8) k (.slice none 0 0) (([]:(List (List Int))),0) (λ_=>rfl) h (SE.fin [1,2,0] ⟨rfl,rfl,rfl,rfl,rfl,rfl,rfl,rfl,rfl,rfl,rfl,trivial⟩ rfl) (λn e c h=>?_);unfold jo at h;refine sr (jb (bA rfl) ?_);refine nt (ak (ci h (λh=>?_) (λh=>?_)))
     .refine sk (aG (Z:=Value) (α:=(List (List Int))) (λE X=>[(1,I a1),(3,Pt b1),(8,.eq (.func (.func 75) #[(.int .u8 a2)] #[])),(9,I y4.2),(11,.eq E),(22,.rep (.slice (.slice Tl)) a0.2.2.2.2.1),(23,I (a0.2.2.2.2.1.length:Int)),(24,I y4.2),(29,.rep (.slice Tl) x8),(30,I (x8.length:Int)),(31,I c.2)]) (λE X=>[.obj b1 26 (.agg (.pair (I a0.1) (.pair (I a0.2.1) (.pair (I a0.2.2.1) (.pair (I a0.2.2.2.1) (.pair (.eq z5) (Rs bR a0.2.2.2.2.2))))))),.sl z5 30 (.slice Tl) y4.1,.sl E 22 Tl X]) h (λK h=>?_) (λE X h=>?_))
      .refine aj (sr ?_);obtain⟨u,TZ,h⟩:=aa h;refine jb (aI (t:=Tl) rfl qY gJ TZ) ?_;refine ja (am (t:=Tl) rfl gJ rfl) ?_;refine aq (nt (sr ?_));refine cq (nt ?_);refine aG (Z:=Value) (α:=(List Int)) (λO M=>[(1,I a1),(3,Pt b1),(8,.eq (.func (.func 75) #[(.int .u8 a2)] #[])),(9,I y4.2),(11,.eq e),(14,.eq O),(22,.rep (.slice (.slice Tl)) a0.2.2.2.2.1),(23,I (a0.2.2.2.2.1.length:Int)),(24,I y4.2),(29,.rep (.slice Tl) x8),(30,I (x8.length:Int)),(31,I c.2)]) (λO M=>[.obj b1 26 (.agg (.pair (I a0.1) (.pair (I a0.2.1) (.pair (I a0.2.2.1) (.pair (I a0.2.2.2.1) (.pair (.eq z5) (Rs bR a0.2.2.2.2.2))))))),.sl z5 30 (.slice Tl) y4.1,.sl e 22 Tl c.1,.sl O 3 Ti M]) h (λK h=>?_) (λO M h=>?_)
       .refine sr (mq ?_);refine ol fM ?_;refine fa rfl ?_;refine nt (aj (jN (SE.nil 3 Ti) ?_));refine aH (λl j=>[(1,I a1),(3,Pt b1),(8,.eq (.func (.func 75) #[(.int .u8 a2)] #[])),(9,I y4.2),(11,.eq e),(14,.eq l),(22,.rep (.slice (.slice Tl)) a0.2.2.2.2.1),(23,I (a0.2.2.2.2.1.length:Int)),(24,I y4.2),(29,.rep (.slice Tl) x8),(30,I (x8.length:Int)),(31,I c.2),(35,.rep Tl u),(36,I (u.length:Int)),(37,I j.2)]) (λl j=>[.obj b1 26 (.agg (.pair (I a0.1) (.pair (I a0.2.1) (.pair (I a0.2.2.1) (.pair (I a0.2.2.2.1) (.pair (.eq z5) (Rs bR a0.2.2.2.2.2))))))),.sl z5 30 (.slice Tl) y4.1,.sl e 22 Tl c.1,.sl l 3 Ti j.1]) (jm k a1 a2 y4 u) k (.slice none 0 0) (([]:(List Int)),0) (λ_=>rfl) h (SE.fin [1,2,3,0] ⟨rfl,rfl,rfl,rfl,rfl,rfl,rfl,rfl,rfl,rfl,rfl,rfl,rfl,rfl,rfl,trivial⟩ rfl) (λn l j h=>?_);unfold jm at h;refine sr (jb (bA rfl) ?_);refine nt (ak (ci h (λh=>?_) (λh=>?_)))
        .refine sk (aG (Z:=Value) (α:=(List Int)) (λD U=>[(1,I a1),(3,Pt b1),(8,.eq (.func (.func 75) #[(.int .u8 a2)] #[])),(9,I y4.2),(11,.eq e),(14,.eq D),(22,.rep (.slice (.slice Tl)) a0.2.2.2.2.1),(23,I (a0.2.2.2.2.1.length:Int)),(24,I y4.2),(29,.rep (.slice Tl) x8),(30,I (x8.length:Int)),(31,I c.2),(35,.rep Tl u),(36,I (u.length:Int)),(37,I j.2)]) (λD U=>[.obj b1 26 (.agg (.pair (I a0.1) (.pair (I a0.2.1) (.pair (I a0.2.2.1) (.pair (I a0.2.2.2.1) (.pair (.eq z5) (Rs bR a0.2.2.2.2.2))))))),.sl z5 30 (.slice Tl) y4.1,.sl e 22 Tl c.1,.sl D 3 Ti U]) h (λK h=>?_) (λD U h=>?_))
         .refine aj (sr ?_);obtain⟨J,TY,h⟩:=aa h;refine jb (aI (t:=Ti) rfl fM bV TY) ?_;refine ja (am (t:=Ti) rfl bV rfl) ?_;refine aq (nt ?_);refine aG (Z:=Unit) (α:=Bool) (λmw mc=>[(1,I a1),(3,Pt b1),(8,.eq (.func (.func 75) #[(.int .u8 a2)] #[])),(9,I y4.2),(11,.eq e),(14,.eq l),(16,I J),(22,.rep (.slice (.slice Tl)) a0.2.2.2.2.1),(23,I (a0.2.2.2.2.1.length:Int)),(24,I y4.2),(29,.rep (.slice Tl) x8),(30,I (x8.length:Int)),(31,I c.2),(35,.rep Tl u),(36,I (u.length:Int)),(37,I j.2),(49,.eq (.bool mc))]) (λmw mc=>[.obj b1 26 (.agg (.pair (I a0.1) (.pair (I a0.2.1) (.pair (I a0.2.2.1) (.pair (I a0.2.2.2.1) (.pair (.eq z5) (Rs bR a0.2.2.2.2.2))))))),.sl z5 30 (.slice Tl) y4.1,.sl e 22 Tl c.1,.sl l 3 Ti j.1]) h (λK h=>?_) (λmw mc h=>?_)
          .refine ab ?_;iterate 2 refine mq ?_
           refine jb (bA rfl) ?_;refine mq ?_;refine cE (s:=44) rfl (λhb=>?_) (λhb=>?_)
           .replace h:=ec (sx hb) h;iterate 4 refine gn ?_
            refine pt (nl ?_);exact jz ((),true) h [0,1,2,3]
           .replace h:=cJ (sB hb) h;refine gm ?_;refine gm ?_;obtain⟨zz,Uc,h⟩:=aa h;refine gb (tp (fs:=[(.int .u8 a2)]) (cs:=[]) (ags:=[I J]) [.tmp 46] rfl rfl HA rfl (gg k a2 J zz Uc)) ?_;refine ga (gU rfl) ?_;refine pf (nl ?_);exact jz ((), !zz) h [0,1,2,3]
          .refine cv h (λh=>?_) (λh=>?_)
           .refine ab ?_;iterate 2 refine mq ?_
            refine ja (bi (t:=Ti) [(.tmp 51,_)] [J] rfl rfl dy (.cons rfl .int .nil) rfl rfl) ?_;obtain⟨Ul,Ua,h⟩:=aa h;refine fr 3 ?_;refine ek rfl rfl rfl (cH rfl rfl dy (ao Ua)) ⟨rfl,rfl,trivial⟩ λUi=>?_;refine aq (aA (bn ?_));exact jz (Ui,j.1++[J]) h [1,2,3,0]
           .refine bf (bn ?_);exact jz (l,j.1) h [0,1,2,3]
         .refine ab ?_;obtain⟨Uf,TX,h⟩:=aa h;refine jb (bo rfl TX) ?_;refine mq (nl ?_);exact jz (D,(U,Uf)) h [0,1,2,3]
        .refine xa ?_;exact jz (l,j.1) h [0,1,2,3]
       .refine ab ?_;iterate 2 refine mq ?_
        refine fr 3 ?_;refine eV (iR [14,56] ⟨rfl,rfl,trivial⟩) ?_;refine ja (bi (t:=Tl) [(.tmp 56,_)] [M] rfl rfl o5 (.cons rfl .rep .nil) rfl rfl) ?_;obtain⟨Uk,T9,h⟩:=aa h;refine fr 2 ?_;refine ek rfl rfl rfl (cH rfl rfl o5 (ao T9)) ⟨rfl,rfl,trivial⟩ λUh=>?_;refine aq (aA (bn ?_));exact jz (Uh,c.1++[M]) h [1,2,0]
      .refine ab ?_;obtain⟨Ue,TW,h⟩:=aa h;refine jb (bo rfl TW) ?_;refine mq (nl ?_);exact jz (E,(X,Ue)) h [0,1,2]
     .refine xa ?_;exact jz (e,c.1) h [0,1,2]
    .refine ab (fl dU ?_);refine lo kh ?_;refine mq ?_;refine fr 2 ?_;refine eV (iR [11,62] ⟨rfl,rfl,trivial⟩) ?_;refine ja (bi (t:=(.slice Tl)) [(.tmp 62,_)] [x9] rfl rfl Ap (.cons rfl .rep .nil) rfl rfl) ?_;obtain⟨u32,T8,h⟩:=aa h;refine fr 1 ?_;refine ek rfl rfl rfl (cH rfl rfl Ap (ao T8)) ⟨rfl,rfl,trivial⟩ λUg=>?_;refine fl dU ?_;refine uO λo34=>?_;refine fr 1 ?_;refine aW rfl rfl (aS rfl kh o34 rfl rfl) ⟨rfl,rfl,trivial⟩ ?_;refine aA (bn ?_);exact jz (Ug,y4.1++[x9]) h [0,1]
   .refine ab ?_;obtain⟨Ud,TV,h⟩:=aa h;refine jb (bo rfl TV) ?_;refine mq (nl ?_);exact jz (z7,(x6,Ud)) h [0,1]
  .refine xa ?_;exact jz (z5,y4.1) h [0,1]
 .
  refine sr (fr 1 ?_);refine eV (qf (off:=4) [] trivial rfl rfl) ?_;refine lo jP ?_;obtain⟨qt,Ub,h⟩:=aa h;have y:=nc k (a0.1,a0.2.1,a0.2.2.1,a0.2.2.2.1,x2,a0.2.2.2.2.2) qt Ub;rcases hr:qt with _ |Um
  .rw [hr] at h y;replace h:=vv h;refine aL (Δ:=[]) (F:=_) (λ_ _ _=>ag rfl _) rfl rfl (bN (N:=[(.tmp 67,.agg (.pair (I a0.1) (.pair (I a0.2.1) (.pair (I a0.2.2.1) (.pair (I a0.2.2.2.1) (.pair (.rep (.slice (.slice Tl)) x2) (Rs bR a0.2.2.2.2.2)))))))]) (av [.tmp 67] rfl rfl Kq rfl y) λ_ _ _ hn=>⟨(aF (t:=au) (x:=(a0.1,a0.2.1,a0.2.2.1,a0.2.2.2.1,x2,a0.2.2.2.2.2)) (.agg (.pair .int (.pair .int (.pair .int (.pair .int (.pair .rep .rep)))))) trivial rfl hn.1),trivial⟩) ⟨rfl,trivial⟩ λ_=>?_;refine aq (nt (ax ?_));cases h;exact aP (0,0) [.eq (.pointer none)] 0 ⟨rfl,trivial⟩ rfl
  .rw [hr] at h y;replace h:=vu h;refine aL (Δ:=[]) (F:=_) (λ_ _ _=>ag rfl _) rfl rfl (bN (N:=[(.tmp 67,.agg (.pair (I a0.1) (.pair (I a0.2.1) (.pair (I a0.2.2.1) (.pair (I a0.2.2.2.1) (.pair (.rep (.slice (.slice Tl)) x2) (Rs bR a0.2.2.2.2.2)))))))]) (av [.tmp 67] rfl rfl Kq rfl y) λ_ _ _ hn=>⟨(aF (t:=au) (x:=(a0.1,a0.2.1,a0.2.2.1,a0.2.2.2.1,x2,a0.2.2.2.2.2)) (.agg (.pair .int (.pair .int (.pair .int (.pair .int (.pair .rep .rep)))))) trivial rfl hn.1),trivial⟩) ⟨rfl,trivial⟩ λY=>?_;refine aq (nt (ax ?_));cases h;exact aP (Y.1,Y.2) [.eq (.pointer (some ⟨Y.1,0,none⟩))] 2 ⟨rfl,trivial⟩ rfl
def eM(k:Nat)(a0:ae)(r1:(List (List Int)))(y5:Int):Nat->Int->Option (Except Bool Unit)
 |0,_=>none
 |n+1,c=>
  if c < a0.1 then((((aJ r1 y5).bind λs=>
  (aJ s c).bind λr=>
  if r < 0 then((ck (y5+1)).bind λl=>
  (aJ r1 l).bind λj=>
  (aJ j c).bind λh=>
  some (decide (h=0))) else(some false)):Option (Bool)).bind λu=>
  if u=true then(some (.error true)) else((ck (c+1)).bind λe=>
  eM k a0 r1 y5 n e)) else(some (.ok ()))
def eN(k:Nat)(a0:ae)(r1:(List (List Int))):Nat->Int->Option (Except Bool Unit)
 |0,_=>none
 |n+1,y5=>
  if y5 < (a0.2.2.2.2.1.length:Int) then(bE (α:=Unit) ((ck (y5+1)).bind λx9=>
  (aJ r1 x9).bind λh=>
  (aJ r1 y5).bind λc=>
  (cN (wV h/\wV c)).bind λ_=>
  if h=c then(some (.ok ())) else(eM k a0 r1 y5 k 0)) (λe=>some (.error e)) λ_=>
  (ck (y5+1)).bind λj=>
  eN k a0 r1 n j) else(some (.ok ()))
def iH(k:Nat)(a0:ae)(a1:Int)(a2:Int):Option Bool:=
 (lb k a0 a1).bind λr1=>
 bE (α:=Unit) (eN k a0 r1 k a2) (some) λ_=>
 some false
theorem nQ(k:Nat)(a0:ae)(c z_a0:Nat)(a1:Int)(a2:Int)(r:Bool)(h:iH k a0 a1 a2=some r):
 cj (dR Tryz.prog) 55 [Pt c,.eq (.int .u8 a1),I a2] [.obj c 129 (aR a0 z_a0),.inv z_a0 (bW k a0)] (λ_:Unit=>(bJ [.eq (.bool r)],[.obj c 129 (aR a0 z_a0),.inv z_a0 (bW k a0)])):=by
 unfold iH at h
 replace h:=bq h
 refine cj.of 56 Tryz.func55 rfl Tryz.ntmps55 rfl λS w0=>?_
 refine sr ?_
 refine cq ?_
 refine nt ?_
 refine sr ?_
 iterate 2 refine mq ?_
 obtain⟨r1,TW,h⟩:=aa h
 have TX:=oN k a0 c z_a0 a1 r1 TW
 refine fr 1 ?_
 refine fr 1 ?_
 refine aL (Δ:=[_,_]) (F:=_) (λ_ _ _=>ag rfl _) rfl rfl (aY [.tmp 10,.tmp 11] rfl rfl Eb rfl TX) ⟨rfl,rfl,trivial⟩ λ_=>?_
 refine bg rfl rfl rfl (bI rfl EQ HT) trivial λb2=>?_
 refine aW rfl rfl (aS rfl FB rfl rfl rfl) ⟨rfl,rfl,trivial⟩ ?_
 refine eV (ji (t:=(.arr 7 Tr)) (x:=r1) [7] .rep ⟨rfl,trivial⟩) ?_
 refine nt ?_
 refine c7 (Z:=Unit) (α:=Unit) (λz4 x3=>[]) (λz4 x3=>[.obj c 129 (aR a0 z_a0),.inv z_a0 (bW k a0)]) (λe=>e=r) h (λe h=>Option.some.inj h) (λK hR h=>?_) (λz4 x3 h=>?_)
 .
  refine sr (mq ?_);refine aq (nt (aj ?_));refine aH (λz6 y5=>[(0,Pt c),(7,.at (.arr 7 Tr) r1),(8,I y5)]) (λz6 y5=>[.obj c 129 (aR a0 z_a0),.inv z_a0 (bW k a0)]) (eN k a0 r1) k () a2 (λ_=>rfl) h (SE.fin [0,1] ⟨rfl,rfl,rfl,trivial⟩ rfl) (λn z6 y5 h=>?_);unfold eN at h;refine ak (sr ?_);iterate 2 refine mq ?_
  refine ja (cI rfl) ?_;refine fl gC ?_;refine fl dU ?_;refine lo kh ?_;refine ol yi ?_;refine jb (bA rfl) ?_;refine nt (ci h (λh=>?_) (λh=>?_))
  .refine sk (c7 (Z:=Unit) (α:=Unit) (λz8 x7=>[(0,Pt c),(7,.at (.arr 7 Tr) r1),(8,I y5)]) (λz8 x7=>[.obj c 129 (aR a0 z_a0),.inv z_a0 (bW k a0)]) (λe=>e=r) h (λe h=>hR e h) (λK hR h=>?_) (λz8 x7 h=>?_))
   .refine aj (ak (ak (cP ?_)));refine dm ?_;obtain⟨x9,TV,h⟩:=aa h;refine db (bo rfl TV) ?_;obtain⟨Ub,mc,h⟩:=aa h;refine db (co (t:=Tr) rfl IB iV mc) ?_;refine da (am (t:=Tr) rfl iV rfl) ?_;refine dm ?_;obtain⟨Ua,Y,h⟩:=aa h;refine db (co (t:=Tr) rfl IB iV Y) ?_;refine da (am (t:=Tr) rfl iV rfl) ?_;refine df dN ?_;obtain⟨Uc,l,h⟩:=aa h;refine jb (Gn rfl (ao l).1 (ao l).2) ?_;refine nt (ci h (λh=>?_) (λh=>?_))
    .refine eW (bF (cO (an ?_)));exact jz ((),()) h [0,1]
    .refine sk (sr (mq ?_));refine ja (cI rfl) ?_;refine fl gC ?_;refine fl gp ?_;refine lo bV ?_;refine fa rfl ?_;refine nt (aj (aH (λD j=>[(0,Pt c),(7,.at (.arr 7 Tr) r1),(8,I y5),(36,I a0.1),(37,I j)]) (λD j=>[.obj c 129 (aR a0 z_a0),.inv z_a0 (bW k a0)]) (eM k a0 r1 y5) k () 0 (λ_=>rfl) h (SE.fin [0,1] ⟨rfl,rfl,rfl,rfl,rfl,trivial⟩ rfl) (λn D j h=>?_)));unfold eM at h;refine sr (jb (bA rfl) ?_);refine nt (ak (ci h (λh=>?_) (λh=>?_)))
     .refine sk (ak (aj (sr (mq ?_))));refine aq (nt ?_);refine aG (Z:=Unit) (α:=Bool) (λy u=>[(0,Pt c),(7,.at (.arr 7 Tr) r1),(8,I y5),(36,I a0.1),(37,I j),(54,.eq (.bool u))]) (λy u=>[.obj c 129 (aR a0 z_a0),.inv z_a0 (bW k a0)]) h (λK h=>?_) (λy u h=>?_)
      .refine ab ?_;iterate 2 refine mq ?_
       obtain⟨T9,X,h⟩:=aa h;refine jb (co (t:=Tr) rfl IB iV X) ?_;obtain⟨T8,U,h⟩:=aa h;refine jb (co (t:=Ti) rfl Bm bV U) ?_;refine ja (am (t:=Ti) rfl bV rfl) ?_;refine jb (bA rfl) ?_;refine mq ?_;refine cE (s:=46) rfl (λhb=>?_) (λhb=>?_)
       .replace h:=ec (sx hb) h;refine gm ?_;obtain⟨TZ,Q,h⟩:=aa h;refine gb (bo rfl Q) ?_;refine gm ?_;obtain⟨TY,O,h⟩:=aa h;refine gb (co (t:=Tr) rfl IB iV O) ?_;obtain⟨zz,M,h⟩:=aa h;refine gb (co (t:=Ti) rfl Bm bV M) ?_;refine ga (am (t:=Ti) rfl bV rfl) ?_;refine gb (iD rfl) ?_;refine pt (nl ?_);exact jz ((),decide (zz=0)) h [0,1]
       .replace h:=cJ (sB hb) h;iterate 7 refine gn ?_
        refine pf (nl ?_);exact jz ((),false) h [0,1]
      .refine cv h (λh=>?_) (λh=>?_)
       .refine sr (cq (nt (ax (br (ba (br (ba (aZ ?_))))))));obtain rfl:=hR _ h;exact aP () [_] 2 ⟨rfl,trivial⟩ rfl
       .refine bf (aX (tn (ab ?_)));obtain⟨qt,J,h⟩:=aa h;refine jb (bo rfl J) ?_;refine mq (nl ?_);exact jz ((),qt) h [0,1]
     .refine eW (bF (bF (cO (bn ?_))));exact jz ((),()) h [0,1]
   .refine ab (mq ?_);obtain⟨mw,E,h⟩:=aa h;refine jb (bo rfl E) ?_;refine aq (nl ?_);exact jz ((),mw) h [0,1]
  .refine xa ?_;exact jz ((),()) h [0,1]
 .
  refine sr (cq (nt (ax ?_)));cases h;exact aP () [_] 2 ⟨rfl,trivial⟩ rfl
def mQ(k:Nat)(a0:Int)(a1:ae)(a2:Int):Option Bool:=
 (iH k a1 a0 a2).bind λr1=>
 some r1
theorem s9(k:Nat)(a0:Int)(a1:ae)(c z_a1 j:Nat)(a2:Int)(e:Nat)(r:Bool)(h:mQ k a0 a1 a2=some r):
 cj (dR Tryz.prog) 54 [.eq (.int .u8 a0),Pt j,Pt e] [.obj c 129 (aR a1 z_a1),.inv z_a1 (bW k a1),.obj j 70 (Pt c),.obj e 3 (I a2)] (λ_:Unit=>(bJ [.eq (.bool r)],[.obj c 129 (aR a1 z_a1),.inv z_a1 (bW k a1),.obj j 70 (Pt c),.obj e 3 (I a2)])):=by
 unfold mQ at h
 replace h:=bq h
 refine cj.of 9 Tryz.func54 rfl Tryz.ntmps54 rfl λS w0=>?_
 refine sr ?_
 refine cq ?_
 refine nt ?_
 refine sr ?_
 refine fr 2 ?_
 refine lo IX ?_
 refine mq ?_
 refine fr 3 ?_
 refine lo bV ?_
 obtain⟨r1,l,h⟩:=aa h
 have n:=nQ k a1 c z_a1 a0 a2 r1 l
 refine fr 3 ?_
 refine fr 3 ?_
 refine aL (Δ:=[_,_]) (F:=_) (λ_ _ _=>ag rfl _) rfl rfl (aY [.tmp 5,.tmp 6,.tmp 7] rfl rfl R7 rfl n) ⟨rfl,rfl,rfl,trivial⟩ λ_=>?_
 refine aq ?_
 refine nt ?_
 refine ax ?_
 refine bX (SE.fin (Γ':=[(4,_)]) [0,1,3,2] ⟨rfl,trivial⟩ rfl) ?_
 cases h
 exact aP () [_] 4 ⟨rfl,trivial⟩ rfl
def eH(k:Nat)(a0:(List Int))(a1_0:ae)(a1_1:Int):Nat->Int->Option (Except Int Unit)
 |0,_=>none
 |n+1,y3=>
  if y3 < (a0.length:Int) then((aJ a0 y3).bind λx5=>
  (mQ k x5 a1_0 a1_1).bind λr6=>
  if r6=true then(some (.error y3)) else((ck (y3+1)).bind λx7=>
  eH k a0 a1_0 a1_1 n x7)) else(some (.ok ()))
def iy(k:Nat)(a0:(List Int))(a1_0:ae)(a1_1:Int):Option Int:=
 bE (α:=Unit) (eH k a0 a1_0 a1_1 k 0) (some) λ_=>
 some (-1:Int)
theorem nF(k:Nat)(a0:(List Int))(a1_0:ae)(b_a1_0 z_a1_0 c_a1_0:Nat)(a1_1:Int)(c_a1_1:Nat)(r:Int)(h:iy k a0 a1_0 a1_1=some r):
 cj (dR Tryz.prog) 83 [.rep (.slice (.int .u8)) a0,.eq (.func (.func 54) #[] #[(Pv c_a1_0),(Pv c_a1_1)])] [.obj b_a1_0 129 (aR a1_0 z_a1_0),.inv z_a1_0 (bW k a1_0),.obj c_a1_0 70 (Pt b_a1_0),.obj c_a1_1 3 (I a1_1)] (λ_:Unit=>(bJ [I r],[.obj b_a1_0 129 (aR a1_0 z_a1_0),.inv z_a1_0 (bW k a1_0),.obj c_a1_0 70 (Pt b_a1_0),.obj c_a1_1 3 (I a1_1)])):=by
 unfold iy at h
 replace h:=bq h
 refine cj.of 19 Tryz.func83 rfl Tryz.ntmps83 rfl λS w0=>?_
 refine sr ?_
 refine cq ?_
 refine nt ?_
 refine c7 (Z:=Unit) (α:=Unit) (λz2 x1=>[]) (λz2 x1=>[.obj b_a1_0 129 (aR a1_0 z_a1_0),.inv z_a1_0 (bW k a1_0),.obj c_a1_0 70 (Pt b_a1_0),.obj c_a1_1 3 (I a1_1)]) (λe=>e=r) h (λe h=>Option.some.inj h) (λK hR h=>?_) (λz2 x1 h=>?_)
 .
  refine sr (mq ?_);refine ol zZ ?_;refine fa rfl ?_;refine nt (aj (aH (λz4 y3=>[(0,.rep (.slice (.int .u8)) a0),(1,.eq (.func (.func 54) #[] #[(Pv c_a1_0),(Pv c_a1_1)])),(7,I (a0.length:Int)),(8,I y3)]) (λz4 y3=>[.obj c_a1_0 70 (Pt b_a1_0),.obj b_a1_0 129 (aR a1_0 z_a1_0),.obj c_a1_1 3 (I a1_1),.inv z_a1_0 (bW k a1_0)]) (eH k a0 a1_0 a1_1) k () 0 (λ_=>rfl) h (SE.fin [2,0,3,1] ⟨rfl,rfl,rfl,rfl,trivial⟩ rfl) (λn z4 y3 h=>?_)));unfold eH at h;refine sr (jb (bA rfl) ?_);refine nt (ak (ci h (λh=>?_) (λh=>?_)))
  .refine sk (ak (aj (sr (mq ?_))));refine aq (nt (sr ?_));iterate 3 refine mq ?_
   obtain⟨x5,j,h⟩:=aa h;refine jb (aI (t:=(.int .u8)) rfl zZ pw j) ?_;refine ja (am (t:=(.int .u8)) rfl pw rfl) ?_;obtain⟨r6,l,h⟩:=aa h;refine fr 2 ?_;refine fr 1 ?_;refine fr 3 ?_;refine fr 3 ?_;refine aL (Δ:=[_,_,_,_]) (F:=_) (λ_ _ _=>ag rfl _) rfl rfl (qB (fs:=[]) (cs:=[(Pv c_a1_0),(Pv c_a1_1)]) (ags:=[.eq (.int .u8 x5)]) [.tmp 15] rfl rfl R9 rfl (s9 k x5 a1_0 b_a1_0 z_a1_0 c_a1_0 a1_1 c_a1_1 r6 l)) ⟨rfl,rfl,trivial⟩ λ_=>?_;refine nt (cv h (λh=>?_) (λh=>?_))
   .refine sr (mq ?_);refine aq (nt (ax (br (ba (aZ ?_)))));obtain rfl:=hR _ h;exact aP () [_] 4 ⟨rfl,trivial⟩ rfl
   .refine bf (aX (tn (ab ?_)));obtain⟨x7,c,h⟩:=aa h;refine jb (bo rfl c) ?_;refine mq (nl ?_);exact jz ((),x7) h [2,0,3,1]
  .refine xa ?_;exact jz ((),()) h [1,3,0,2]
 .
  refine sr (cq (nt (ax ?_)));cases h;exact aP () [_] 4 ⟨rfl,trivial⟩ rfl
def eI(k:Nat)(a0:(List Int))(a1_0:ae)(a1_1:Int):Option Bool:=
 (iy k a0 a1_0 a1_1).bind λr1=>
 some (decide (0≤r1))
theorem l8(k:Nat)(a0:(List Int))(a1_0:ae)(b_a1_0 z_a1_0 c_a1_0:Nat)(a1_1:Int)(c_a1_1:Nat)(r:Bool)(h:eI k a0 a1_0 a1_1=some r):
 cj (dR Tryz.prog) 56 [.rep (.slice (.int .u8)) a0,.eq (.func (.func 54) #[] #[(Pv c_a1_0),(Pv c_a1_1)])] [.obj b_a1_0 129 (aR a1_0 z_a1_0),.inv z_a1_0 (bW k a1_0),.obj c_a1_0 70 (Pt b_a1_0),.obj c_a1_1 3 (I a1_1)] (λ_:Unit=>(bJ [.eq (.bool r)],[.obj b_a1_0 129 (aR a1_0 z_a1_0),.inv z_a1_0 (bW k a1_0),.obj c_a1_0 70 (Pt b_a1_0),.obj c_a1_1 3 (I a1_1)])):=by
 unfold eI at h
 replace h:=bq h
 refine cj.of 9 Tryz.func56 rfl Tryz.ntmps56 rfl λS w0=>?_
 refine sr ?_
 refine cq ?_
 refine nt ?_
 refine sr ?_
 iterate 2 refine mq ?_
 obtain⟨r1,c,h⟩:=aa h
 have e:=nF k a0 a1_0 b_a1_0 z_a1_0 c_a1_0 a1_1 c_a1_1 r1 c
 refine fr 3 ?_
 refine fr 3 ?_
 refine fr 3 ?_
 refine fr 3 ?_
 refine aL (Δ:=[_,_,_,_]) (F:=_) (λ_ _ _=>ag rfl _) rfl rfl (aY [.tmp 5,.tmp 6] rfl rfl RO rfl e) ⟨rfl,rfl,trivial⟩ λ_=>?_
 refine jb (iC rfl) ?_
 refine aq ?_
 refine nt ?_
 refine ax ?_
 cases h
 exact aP () [_] 4 ⟨rfl,trivial⟩ rfl
def pP(k:Nat)(a0:ae)(a1:Int):Option ((List Int)×Int):=
 (mg k a0 ([]:(List Int)) [a1] ([]:(List Int))).bind λr3=>
 fX r3.1 (if¬(r3.2.2=0) then(some (([]:(List Int)),r3.2.2)) else(none)) (λq4=>if¬(r3.2.2=0) then(some (([]:(List Int)),r3.2.2)) else((lG k (vI (λ(c:(List Int)) (e:Int)=>
  (mO k a0 a1 e).bind λr=>
  fX r (none) (λs=>(eI k r3.2.1 s a1).bind λn=>
  if¬(n=true) then((cN (cu (length c+length [e]))).bind λ_=>
  some (c++[e],true)) else(some (c,true))))) a0.1 (([]:(List Int)),false)).bind λh=>
 if h.2=true then(none) else((pL k h.1).bind λl=>
 (iF k l).bind λj=>
 some (j,0))))
theorem vp(k:Nat)(a0:ae)(a1:Int)(r:(List Int)×Int)(h:pP k a0 a1=some r):
 cj (dR Tryz.prog) 22 [.rep au a0,I a1] [] (λ_:Unit=>(bJ [.rep Tl r.1,I r.2],[])):=by
 unfold pP at h
 replace h:=bq h
 refine uS 44 Tryz.func22 rfl Tryz.ntmps22 rfl λS w0=>?_
 refine sr ?_
 refine bx λb1=>?_
 refine bx λb2=>?_
 refine cq ?_
 refine cq ?_
 refine nt ?_
 refine sr ?_
 refine fr 1 ?_
 refine lo jP ?_
 refine fr 1 ?_
 refine lo bV ?_
 refine ja (bi (t:=Ti) [(.tmp 15,_)] [a1] rfl rfl dy (.cons rfl .int .nil) rfl rfl) ?_
 obtain⟨r3,TY,h⟩:=aa h
 have y:=mN k a0 ([]:(List Int)) [a1] ([]:(List Int)) r3 TY
 rcases hr:r3.1 with _ |q4
 .
  rw [hr] at h y;replace h:=vv h;refine aL (Δ:=[]) (F:=_) (λ_ _ _=>ag rfl _) rfl rfl (bN (N:=[(.tmp 14,.rep au a0),(.const (.slice none 0 0),.eq (.slice none 0 0)),(.tmp 16,.rep Tl [a1]),(.const (.slice none 0 0),.eq (.slice none 0 0))]) (aY [.tmp 14,.const (.slice none 0 0),.tmp 16,.const (.slice none 0 0)] rfl rfl Ea rfl y) λ_ _ _ hn=>⟨hn.1,(aF (t:=Tl) (x:=([]:(List Int))) .nil rfl rfl hn.2.1),hn.2.2.1,(aF (t:=Tl) (x:=([]:(List Int))) .nil rfl rfl hn.2.2.2.1),trivial⟩) ⟨rfl,rfl,rfl,rfl,trivial⟩ λ_=>?_;refine mq ?_;refine xr ?_;refine xr ?_;refine xr ?_;refine bg rfl rfl rfl (bI rfl IE KO) trivial λb5=>?_;refine aq ?_;refine aW rfl rfl (aS rfl wQ rfl rfl rfl) ⟨rfl,rfl,trivial⟩ ?_;refine aq (nt (ak (sr ?_)));refine mq ?_;refine jb (eZ rfl) ?_;refine nt (cn h (λh=>?_) (λh=>?_))
  .refine sr (mq ?_);refine cq ?_;refine aq (nt (rx ?_));refine bX (eB (t:=Tl) (x:=([]:(List Int))) 4 rfl .nil rfl rfl) ?_;refine zN ?_;cases h;exact rb
  .cases h
 .
  rw [hr] at h y;replace h:=vu h;refine aL (Δ:=[]) (F:=_) (λ_ _ _=>ag rfl _) rfl rfl (bN (N:=[(.tmp 14,.rep au a0),(.const (.slice none 0 0),.eq (.slice none 0 0)),(.tmp 16,.rep Tl [a1]),(.const (.slice none 0 0),.eq (.slice none 0 0))]) (aY [.tmp 14,.const (.slice none 0 0),.tmp 16,.const (.slice none 0 0)] rfl rfl Ea rfl y) λ_ _ _ hn=>⟨hn.1,(aF (t:=Tl) (x:=([]:(List Int))) .nil rfl rfl hn.2.1),hn.2.2.1,(aF (t:=Tl) (x:=([]:(List Int))) .nil rfl rfl hn.2.2.2.1),trivial⟩) ⟨rfl,rfl,rfl,rfl,trivial⟩ λz6=>?_;refine mq ?_;refine xr ?_;refine xr ?_;refine xr ?_;refine bg rfl rfl rfl (bI rfl IE KO) trivial λb7=>?_;refine aq ?_;refine aW rfl rfl (aS rfl wQ rfl rfl rfl) ⟨rfl,rfl,trivial⟩ ?_;refine aq (nt (ak (sr ?_)));refine mq ?_;refine jb (eZ rfl) ?_;refine nt (cn h (λh=>?_) (λh=>?_))
  .refine sr (mq ?_);refine cq ?_;refine aq (nt (rx ?_));refine bX (eB (t:=Tl) (x:=([]:(List Int))) 4 rfl .nil rfl rfl) ?_;refine zN ?_;cases h;exact rb
  .refine sk (sr (bg rfl rfl rfl (bI rfl IE KO) trivial λb8=>?_));refine nt (ak (sr (fl gp ?_)));refine fr 5 ?_;refine lo bV ?_;refine bg rfl rfl rfl (av [.tmp 25] rfl rfl P5 rfl (qI a0.1)) ⟨rfl,trivial⟩ λb9=>?_;refine nt (aj (jN (SE.nil 71 (.int .u8)) ?_));refine dO 7 rfl ?_;refine dO 7 rfl ?_;refine dO 7 rfl ?_;refine dO 7 rfl ?_;refine dO 4 rfl ?_;refine dO 7 rfl ?_;refine dO 7 rfl ?_;refine dO 7 rfl ?_;obtain⟨u,zz,h⟩:=aa h;refine ri (Δ:=[.obj b9 3 (I a0.1),.obj b1 26 (.rep au a0),.obj b8 74 (.eq (.slice none 0 0)),.sl (.slice none 0 0) 71 (.int .u8) ([]:(List Int)),.obj b7 74 (.rep (.slice (.int .u8)) r3.2.1),.obj z6.1 129 (aR q4 z6.2),.inv z6.2 (bW k q4),.obj b2 3 (I a1)]) (F:=[]) (X:=Value) (J:=λ_=>OG u.2) (E:=λc=>[.obj b9 3 (I a0.1),.obj b1 26 (.rep au a0),.obj b8 74 (.eq c),.sl c 71 (.int .u8) u.1,.obj b7 74 (.rep (.slice (.int .u8)) r3.2.1),.obj z6.1 129 (aR q4 z6.2),.inv z6.2 (bW k q4),.obj b2 3 (I a1)]) (r0:=λ_=>.tup .any) rfl rfl P1 (λrec hp ha hb hs hpe hN hv l=>?_) (λdl c=>tO (λhj=>?_) (λhj=>?_))
   .rcases rec with⟨st0,pe0,fn0,tm0,ps0,as0,bd0,df0⟩;dsimp only at hp ha hb hs hpe hN hv;subst hp hs hpe;have vN:zI tm0 [(2,Pt b1),(3,Pt b2),(7,Pt b7),(9,Pt b8)]:=⟨congrArg A.eq (hv 2 _ rfl).symm,congrArg A.eq (hv 3 _ rfl).symm,congrArg A.eq (hv 7 _ rfl).symm,congrArg A.eq (hv 9 _ rfl).symm,trivial⟩;refine cj.pick (M:=(dR Tryz.prog)) [1,0,2,3,4,5,6,7,8] [1,0,2,3,4,5,6,7,8] (nS (λ(c:Value) (q:(List Int)×Bool)=>[.raw l (.loop (jR ⟨.ready,none,fn0,tm0, #[27],as0,bd0,df0⟩ (OG q.2))),.obj b1 26 (.rep au a0),.obj b8 74 (.eq c),.sl c 71 (.int .u8) q.1,.obj b7 74 (.rep (.slice (.int .u8)) r3.2.1),.obj z6.1 129 (aR q4 z6.2),.inv z6.2 (bW k q4),.obj b2 3 (I a1)]) l (vI (λ(n:(List Int)) (j:Int)=>
    (mO k a0 a1 j).bind λs=>
    fX s (none) (λO=>(eI k r3.2.1 O a1).bind λD=>
    if¬(D=true) then((cN (cu (length n+length [j]))).bind λ_=>
    some (n++[j],true)) else(some (n,true))))) k a0.1 b9 (λc q p r' h=>?_) (.slice none 0 0) (([]:(List Int)),false) u zz) rfl (λ_=>rfl) (λ_=>rfl)
    obtain⟨rq,hq,h2,rfl⟩:=tP h;obtain⟨n,b5⟩:=q;obtain rfl:b5=false:=hq;replace h:=bq h2;obtain⟨j,hpv⟩:∃x,x=p:=⟨_,rfl⟩;subst hpv;refine YT.pick (R':=(λc:Value=>(.eq (.bool rq.2),[.raw l (.loop (jR ⟨.ready,none,fn0,tm0, #[27],as0,bd0,df0⟩ (OG (!rq.2)))),.obj b1 26 (.rep au a0),.obj b8 74 (.eq c),.sl c 71 (.int .u8) rq.1,.obj b7 74 (.rep (.slice (.int .u8)) r3.2.1),.obj z6.1 129 (aR q4 z6.2),.inv z6.2 (bW k q4),.obj b2 3 (I a1)]))) [0,1,2,3,4,5,6,7] [0,1,2,3,4,5,6,7] (HW ha hb (N:=44) (Γ:=[(2,Pt b1),(3,Pt b2),(7,Pt b7),(9,Pt b8)]) rfl hN (by decide) vN (λS w=>?_)) rfl (λ_=>rfl) (λ_=>rfl);refine ab (aq (nl ?_));refine zP rfl rfl ?_;refine aj (sr (fr 1 ?_));refine lo jP ?_;refine fr 7 ?_;refine lo bV ?_;refine mq ?_;obtain⟨s,qt,h⟩:=aa h;have e:=vn k a0 a1 j s qt;rcases hr:s with _ |O
    .rw [hr] at h e;replace h:=vv h;refine aL (Δ:=[]) (F:=_) (λ_ _ _=>ag rfl _) rfl rfl (av [.tmp 28,.tmp 29,.tmp 30] rfl rfl P4 rfl e) ⟨rfl,rfl,rfl,trivial⟩ λ_=>?_;cases h
    .rw [hr] at h e;replace h:=vu h;refine aL (Δ:=[]) (F:=_) (λ_ _ _=>ag rfl _) rfl rfl (av [.tmp 28,.tmp 29,.tmp 30] rfl rfl P4 rfl e) ⟨rfl,rfl,rfl,trivial⟩ λQ=>?_;refine bg rfl rfl rfl (bI rfl Q1 SN) trivial λTV=>?_;refine aW rfl rfl (aS rfl IX rfl rfl rfl) ⟨rfl,rfl,trivial⟩ ?_;refine nt (sr (jb (rI [] [.tmp 11,.tmp 3] [] [(Pv TV),(Pv b2)] rfl rfl rfl) ?_));refine aq (nt (sr ?_));refine fr 8 ?_;refine lo wQ ?_;refine mq ?_;obtain⟨D,mw,h⟩:=aa h;refine fr 4 ?_;refine fr 2 ?_;refine fr 4 ?_;refine fr 4 ?_;refine aL (Δ:=[_,_,_,_]) (F:=_) (λ_ _ _=>ag rfl _) rfl rfl (aY [.tmp 33,.tmp 34] rfl rfl R2 rfl (l8 k r3.2.1 O Q.1 Q.2 TV a1 b2 D mw)) ⟨rfl,rfl,trivial⟩ λ_=>?_;refine ja (gU rfl) ?_;refine nt (cw h (λh=>?_) (λh=>?_))
     .refine ab (fr 7 ?_);refine lo wQ ?_;refine mq ?_;refine ja (bi (t:=(.int .u8)) [(.tmp 38,_)] [j] rfl rfl I8 (.cons rfl .int .nil) rfl rfl) ?_;obtain⟨TZ,Y,h⟩:=aa h;refine fr 8 ?_;refine ek rfl rfl rfl (cH rfl rfl I8 (ao Y)) ⟨rfl,rfl,trivial⟩ λTW=>?_;refine uO λo22=>?_;refine fr 1 ?_;refine aW rfl rfl (aS rfl wQ o22 rfl rfl) ⟨rfl,rfl,trivial⟩ ?_;refine aA (aX (bv 5 rfl ?_));refine bv 10 rfl ?_;refine bv 10 rfl ?_;refine bv 8 rfl ?_;refine bv 5 rfl ?_;refine bv 5 rfl ?_;refine bv 9 rfl ?_;refine bv 10 rfl ?_;cases h;exact oY TW 7 rfl
     .refine bf (aX (bv 3 rfl ?_));refine bv 10 rfl ?_;refine bv 10 rfl ?_;refine bv 6 rfl ?_;refine bv 10 rfl ?_;refine bv 10 rfl ?_;refine bv 9 rfl ?_;refine bv 10 rfl ?_;cases h;exact oY c 7 rfl
   .replace h:=cJ (IT hj) h;refine aX (tn (sr (fr 3 ?_)));refine lo wQ ?_;obtain⟨U,mc,h⟩:=aa h;refine fr 4 ?_;refine kb (ll (N:=[(.tmp 41,.eq c),(.func 58,.eq (.func (.func 58) #[] #[]))]) (av [.tmp 41,.func 58] rfl rfl RZ rfl (vo k u.1 U mc)) (λ_ _ _ hv hn=>⟨(lend hn.1 hv),hn.2.1,trivial⟩) (λ_=>⟨rfl,nW⟩)) ?_;obtain⟨TX,Z,h⟩:=aa h;refine ja (av [.tmp 42] rfl rfl NP rfl (jV k U TX Z)) ?_;refine aq ?_;refine cq (nt (ax ?_));refine bv 2 rfl ?_;refine Dh ?_;cases h;exact rb
   .replace h:=ec (IS hj) h;cases h
def cZ(k:Nat)(r2:(List (List Int)))(y6:Int×Int×(List (be×be))):Nat->Int->Option Int
 |0,_=>none
 |n+1,c=>
  ((if 0 < c then((ck (c - 1)).bind λl=>
  (aJ r2 l).bind λj=>
  (aJ j y6.1).bind λh=>
  some (decide (0≤h))) else(some false)):Option (Bool)).bind λr=>
  if r=true then((ck (c - 1)).bind λe=>
  cZ k r2 y6 n e) else(some c)
def c6(k:Nat)(a0:ae)(r2:(List (List Int))):Nat->(Int×Int×(List (be×be)))->Option (List (fp×fp))
 |0,_=>none
 |n+1,y6=>
  bE (α:=Int×Int×(List (be×be))) (((cZ k r2 y6 k y6.2.1):Option (Int)).bind λc=>
  if c=0 then((cN (wP (y6.1,y6.2.1))).bind λ_=>
  some (.error (nO y6.2.2 (y6.1,y6.2.1) ((-1:Int),0)))) else((ck (c - 1)).bind λr=>
  (aJ r2 r).bind λl=>
  (ck (c - 1)).bind λj=>
  (cY k a0 l y6.1 j).bind λh=>
  (ck (c - 1)).bind λe=>
  (cN (wP (y6.1,y6.2.1))).bind λ_=>
  some (.ok (h,e,nO y6.2.2 (y6.1,y6.2.1) (h,e))))) (some) λx8=>
  c6 k a0 r2 n (x8.1,x8.2.1,x8.2.2)
def iJ(k:Nat)(a0:ae)(a1:Int)(a2:fp):Option (List (fp×fp)):=
 (lb k a0 a1).bind λr2=>
 c6 k a0 r2 k (a2.1,a2.2,([]:List (be×be)))
theorem qH(k:Nat)(a0:ae)(c z_a0:Nat)(a1:Int)(a2:fp)(r:(List (fp×fp)))(h:iJ k a0 a1 a2=some r):
 cj (dR Tryz.prog) 66 [Pt c,.eq (.int .u8 a1),.rep bM a2] [.obj c 129 (aR a0 z_a0),.inv z_a0 (bW k a0)] (λz:Nat=>(bJ [.eq (.map (some z))],[.inv z (sY r),.obj c 129 (aR a0 z_a0),.inv z_a0 (bW k a0)])):=by
 unfold iJ at h
 replace h:=bq h
 refine cj.of 56 Tryz.func66 rfl Tryz.ntmps66 rfl λS w0=>?_
 refine sr ?_
 refine bx λb1=>?_
 refine cq ?_
 refine nt ?_
 refine sr ?_
 iterate 2 refine mq ?_
 obtain⟨r2,Uo,h⟩:=aa h
 have Up:=oN k a0 c z_a0 a1 r2 Uo
 refine fr 2 ?_
 refine fr 2 ?_
 refine aL (Δ:=[_,_]) (F:=_) (λ_ _ _=>ag rfl _) rfl rfl (aY [.tmp 12,.tmp 13] rfl rfl Eb rfl Up) ⟨rfl,rfl,trivial⟩ λ_=>?_
 refine bg rfl rfl rfl (bI rfl EQ HT) trivial λb3=>?_
 refine aW rfl rfl (aS rfl FB rfl rfl rfl) ⟨rfl,rfl,trivial⟩ ?_
 refine eV (ji (t:=(.arr 7 Tr)) (x:=r2) [7] .rep ⟨rfl,trivial⟩) ?_
 refine nt ?_
 refine sr ?_
 refine bg rfl rfl rfl (vT rfl) trivial λz4=>?_
 refine eV (sJ (sY []) IW) ?_
 refine aq ?_
 refine nt ?_
 refine sr ?_
 refine bg rfl rfl rfl (bI rfl sO zF) trivial λb5=>?_
 refine nt ?_
 refine sr ?_
 refine fl xA ?_
 refine aW rfl rfl (aS rfl bV rfl rfl rfl) ⟨rfl,rfl,trivial⟩ ?_
 refine nt ?_
 refine aj ?_
 refine dO 4 rfl ?_
 refine jN (ju (a:=.rep bM a2) (a':=.agg (.pair (I a2.1) (I a2.2))) (AE.trans Dp (AE.agg (AE.trans zS (AE.pair AE.int AE.int))))) ?_
 refine aH (λz7 y6=>[(0,Pt c),(5,Pt b1),(7,.at (.arr 7 Tr) r2),(8,.eq (.map (some z4))),(9,Pt b5)]) (λz7 y6=>[.obj c 129 (aR a0 z_a0),.obj b1 110 (.agg (.pair (I y6.1) (I y6.2.1))),.obj b5 110 (.agg (.pair (I (-1:Int)) (I 0))),.inv z_a0 (bW k a0),.inv z4 (sY y6.2.2)]) (c6 k a0 r2) k () (a2.1,a2.2,([]:List (be×be))) (λ_=>rfl) h (SE.fin [3,0,1,4,2] ⟨rfl,rfl,rfl,rfl,rfl,trivial⟩ rfl) (λn z7 y6 h=>?_)
 unfold c6 at h
 refine Il (Z:=Unit) (α:=Int×Int×(List (be×be))) (λz9 x8=>[(0,Pt c),(5,Pt b1),(7,.at (.arr 7 Tr) r2),(8,.eq (.map (some z4))),(9,Pt b5)]) (λz9 x8=>[.obj c 129 (aR a0 z_a0),.obj b1 110 (.agg (.pair (I x8.1) (I x8.2.1))),.obj b5 110 (.agg (.pair (I (-1:Int)) (I 0))),.inv z_a0 (bW k a0),.inv z4 (sY x8.2.2)]) (λe=>e=r) h (λe h=>Option.some.inj h) (λK hR h=>?_) (λz9 x8 h=>?_)
 .
  refine aj (sr (fl Ko ?_));refine fr 1 ?_;refine lo bV ?_;refine aq (nt ?_);refine aG (Z:=Unit) (α:=Int) (λO D=>[(0,Pt c),(5,Pt b1),(7,.at (.arr 7 Tr) r2),(8,.eq (.map (some z4))),(9,Pt b5),(10,I D)]) (λO D=>[.obj c 129 (aR a0 z_a0),.obj b1 110 (.agg (.pair (I y6.1) (I y6.2.1))),.obj b5 110 (.agg (.pair (I (-1:Int)) (I 0))),.inv z_a0 (bW k a0),.inv z4 (sY y6.2.2)]) h (λK h=>?_) (λO D h=>?_)
  .refine aj (aH (λM s=>[(0,Pt c),(5,Pt b1),(7,.at (.arr 7 Tr) r2),(8,.eq (.map (some z4))),(9,Pt b5),(10,I s)]) (λM s=>[.obj c 129 (aR a0 z_a0),.obj b1 110 (.agg (.pair (I y6.1) (I y6.2.1))),.obj b5 110 (.agg (.pair (I (-1:Int)) (I 0))),.inv z_a0 (bW k a0),.inv z4 (sY y6.2.2)]) (cZ k r2 y6) k () y6.2.1 (λ_=>rfl) h (SE.fin [1,0,2,3,4] ⟨rfl,rfl,rfl,rfl,rfl,rfl,trivial⟩ rfl) (λn M s h=>?_));unfold cZ at h;refine ak (aG (Z:=Unit) (α:=Bool) (λJ y=>[(0,Pt c),(5,Pt b1),(7,.at (.arr 7 Tr) r2),(8,.eq (.map (some z4))),(9,Pt b5),(10,I s),(30,.eq (.bool y))]) (λJ y=>[.obj c 129 (aR a0 z_a0),.obj b1 110 (.agg (.pair (I y6.1) (I y6.2.1))),.obj b5 110 (.agg (.pair (I (-1:Int)) (I 0))),.inv z_a0 (bW k a0),.inv z4 (sY y6.2.2)]) h (λK h=>?_) (λJ y h=>?_))
   .refine cP ?_;refine dm ?_;refine db (me rfl) ?_;refine lR rfl rfl rfl (aQ rfl) ⟨rfl,trivial⟩ (λhb=>?_) (λhb=>?_)
    .replace h:=ec (sx hb) h;refine aC rfl rfl rfl rfl rfl (aQ rfl) ⟨rfl,rfl,trivial⟩ ?_;obtain⟨Uz,TZ,h⟩:=aa h;refine aC rfl rfl rfl rfl rfl (dY rfl TZ) ⟨rfl,rfl,rfl,trivial⟩ ?_;refine aC rfl rfl rfl rfl rfl (aK rfl xA) ⟨rfl,rfl,trivial⟩ ?_;refine iU 1 rfl rfl rfl rfl rfl rfl (ay rfl bV pH rfl) ⟨rfl,rfl,trivial⟩ ?_;obtain⟨Uy,TY,h⟩:=aa h;refine aC rfl rfl rfl rfl rfl (co (t:=Tr) rfl IB iV TY) ⟨rfl,rfl,rfl,trivial⟩ ?_;refine df dN ?_;obtain⟨Ue,TX,h⟩:=aa h;refine gb (co (t:=Ti) rfl Bm bV TX) ?_;refine ga (am (t:=Ti) rfl bV rfl) ?_;refine gb (iC rfl) ?_;refine pt (nl ?_);exact jz ((),decide (0≤Ue)) h [0,1,2,3,4]
    .replace h:=cJ (sB hb) h;iterate 5 refine dg ?_
     refine df dN ?_;iterate 3 refine gn ?_
     refine pf (nl ?_);exact jz ((),false) h [0,1,2,3,4]
   .refine cv h (λh=>?_) (λh=>?_)
    .refine sk (aj (ab (mq ?_)));obtain⟨Ud,TW,h⟩:=aa h;refine jb (dY rfl TW) ?_;refine aq (aA (bn ?_));exact jz ((),Ud) h [0,1,2,3,4]
    .refine xa ?_;exact jz ((),s) h [0,1,2,3,4]
  .refine ak (sr (mq ?_));refine jb (iD rfl) ?_;refine nt (ci h (λh=>?_) (λh=>?_))
   .refine sr (mq ?_);refine fr 1 ?_;refine lo jw ?_;refine fr 2 ?_;refine lo jw ?_;refine eV (eB (t:=bM) (x:=(y6.1,y6.2.1)) 36 rfl (.agg (.pair .int .int)) trivial rfl) ?_;obtain⟨UO,T9,h⟩:=aa h;refine eV (eB (t:=bM) (x:=((-1:Int),0)) 37 rfl (.agg (.pair .int .int)) trivial rfl) ?_;refine fr 4 ?_;refine aW rfl rfl (qA (K:=kJ) (V:=kJ) (t:=(y6.1,y6.2.1)) (n:=((-1:Int),0)) (l:=y6.2.2) (λ_ _ _ h=>mE h) rfl EB lZ (λ_ _ _ h=>mE h) (qm (ao T9)) (ql _) qo) ⟨rfl,rfl,rfl,trivial⟩ ?_;refine nt (sr (mq ?_));refine aq (nt (rx (br (ba ?_))));refine bX (SE.fin (Γ':=[(6,_)]) [0,3,4,1,2] ⟨rfl,trivial⟩ rfl) ?_;obtain rfl:=hR _ h;exact aP z4 [.eq (.map (some z4))] 3 ⟨rfl,trivial⟩ rfl
   .refine sk (ak (rj ?_));refine cF rfl rfl rfl (aQ rfl) ⟨rfl,trivial⟩ ?_;refine cF rfl rfl rfl (aQ rfl) ⟨rfl,trivial⟩ ?_;obtain⟨Ux,TV,h⟩:=aa h;refine cF rfl rfl rfl (dY rfl TV) ⟨rfl,rfl,trivial⟩ ?_;obtain⟨Uc,zz,h⟩:=aa h;refine cF rfl rfl rfl (co (t:=Tr) rfl IB iV zz) ⟨rfl,rfl,trivial⟩ ?_;refine cF rfl rfl rfl (am (t:=Tr) rfl iV rfl) ⟨rfl,trivial⟩ ?_;refine cF rfl rfl rfl (aK rfl xA) ⟨rfl,trivial⟩ ?_;refine iT 1 rfl rfl rfl rfl (ay rfl bV pH rfl) ⟨rfl,trivial⟩ ?_;refine cF rfl rfl rfl (aQ rfl) ⟨rfl,trivial⟩ ?_;obtain⟨Ub,qt,h⟩:=aa h;refine cF rfl rfl rfl (dY rfl qt) ⟨rfl,rfl,trivial⟩ ?_;obtain⟨j,Ua,h⟩:=aa h;refine iT 0 rfl rfl rfl rfl (av [.tmp 39,.tmp 43,.tmp 45,.tmp 47] rfl rfl PZ rfl (ni k a0 c z_a0 Uc y6.1 Ub j Ua)) ⟨rfl,rfl,rfl,rfl,trivial⟩ ?_;refine cF rfl rfl rfl (aQ rfl) ⟨rfl,trivial⟩ ?_;obtain⟨u,mw,h⟩:=aa h;refine cF rfl rfl rfl (dY rfl mw) ⟨rfl,rfl,trivial⟩ ?_;refine cF rfl rfl rfl (ee [(0,.tmp 48,_),(1,.tmp 50,_)] rfl Ge sO Bi (j7 ⟨rfl,rfl,trivial⟩) rfl) ⟨rfl,rfl,trivial⟩ ?_;refine Ld (M6 110 (.agg (.pair (I 0) (I 0)))) (λ_=>rfl) rfl rfl rfl (bI rfl sO zF) trivial ?_;refine yb 14 [true,true,true,true,true,true,true,true,true,true,true,true,true,true] [] [] [] rfl (by kernel_rfl) (by kernel_rfl) (by kernel_rfl) dN (λvs hv hB=>?_);obtain⟨w0,UM,rfl,Un⟩:=aE hv;obtain⟨w1,UL,rfl,Um⟩:=aE Un;obtain⟨w2,UK,rfl,Ul⟩:=aE Um;obtain⟨w3,UJ,rfl,Uk⟩:=aE Ul;obtain⟨w4,UI,rfl,Uj⟩:=aE Uk;obtain⟨w5,UH,rfl,Ui⟩:=aE Uj;obtain⟨w6,UG,rfl,Uh⟩:=aE Ui;obtain⟨w7,UF,rfl,Ug⟩:=aE Uh;obtain⟨w8,UE,rfl,Uf⟩:=aE Ug;obtain⟨w9,Uw,rfl,mc⟩:=aE Uf;obtain⟨UD,Uu,rfl,Y⟩:=aE mc;obtain⟨UC,Ut,rfl,X⟩:=aE Y;obtain⟨UB,Us,rfl,U⟩:=aE X;obtain⟨UA,Ur,rfl,Q⟩:=aE U;obtain rfl:=tw Q;obtain⟨E,rfl⟩:=M5 hB.2.2.2.2.2.2.2.2.2.2.2.2.2.1;refine⟨[0,1,2,3,4,5],[.obj c 129 (aR a0 z_a0),.obj b1 110 (.agg (.pair (I y6.1) (I y6.2.1))),.obj b5 110 (.agg (.pair (I (-1:Int)) (I 0))),.inv z_a0 (bW k a0),.inv z4 (sY y6.2.2),.obj E 110 (.agg (.pair (I 0) (I 0)))],by kernel_rfl,by decide,?_⟩;refine uN 5 rfl ?_;refine sK rfl rfl (aS rfl jw trivial rfl rfl) ⟨rfl,rfl,trivial⟩ (by kernel_rfl) ?_;refine xY ?_;refine bX (SE.fin (Γ':=[(0,Pt c),(5,Pt b1),(7,.at (.arr 7 Tr) r2),(8,.eq (.map (some z4))),(9,Pt b5),(11,Pt E)]) (Δ':=[.obj E 110 (.agg (.pair (I j) (I u))),.obj c 129 (aR a0 z_a0),.obj b1 110 (.agg (.pair (I y6.1) (I y6.2.1))),.obj b5 110 (.agg (.pair (I (-1:Int)) (I 0))),.inv z_a0 (bW k a0),.inv z4 (sY y6.2.2)]) [0,1,2,3,4,5] ⟨rfl,rfl,rfl,rfl,rfl,rfl,trivial⟩ rfl) ?_;refine tn (sr (mq ?_));refine fr 2 ?_;refine lo jw ?_;refine fr 1 ?_;refine lo jw ?_;refine eV (eB (t:=bM) (x:=(y6.1,y6.2.1)) 53 rfl (.agg (.pair .int .int)) trivial rfl) ?_;obtain⟨UN,T8,h⟩:=aa h;refine eV (eB (t:=bM) (x:=(j,u)) 54 rfl (.agg (.pair .int .int)) trivial rfl) ?_;refine fr 5 ?_;refine aW rfl rfl (qA (K:=kJ) (V:=kJ) (t:=(y6.1,y6.2.1)) (n:=(j,u)) (l:=y6.2.2) (λ_ _ _ h=>mE h) rfl EB lZ (λ_ _ _ h=>mE h) (qm (ao T8)) (ql _) qo) ⟨rfl,rfl,rfl,trivial⟩ ?_
    refine nt (ab (fr 1 ?_));refine lo jw ?_;refine fr 2 ?_;refine aW rfl rfl (aS rfl jw trivial rfl rfl) ⟨rfl,rfl,trivial⟩ ?_;refine aA (bn ?_);exact jz ((),(j,u,nO y6.2.2 (y6.1,y6.2.1) (j,u))) h [3,0,4,5,2]
 .
  refine an ?_;exact jz ((),(x8.1,x8.2.1,x8.2.2)) h [0,1,2,3,4]
def eR(k:Nat)(r7:(List (fp×fp))):Nat->(Int×Int×(List Int))->Option (List Int)
 |0,_=>none
 |n+1,c=>
  (cN (wP (c.1,c.2.1))).bind λ_=>
  if¬((ik r7 (c.1,c.2.1) (0,0))=((-1:Int),0)) then((cN (wP (c.1,c.2.1))).bind λ_=>
  (cN (cu (length c.2.2+length [(ik r7 (c.1,c.2.1) (0,0)).1]))).bind λ_=>
  (cN (wP (c.1,c.2.1))).bind λ_=>
  eR k r7 n ((ik r7 (c.1,c.2.1) (0,0)).1,(ik r7 (c.1,c.2.1) (0,0)).2,c.2.2++[(ik r7 (c.1,c.2.1) (0,0)).1])) else(some c.2.2)
def kB(k:Nat)(a0:ae)(a1:(List Int))(a2:Int):Option ((List Int)×Int):=
 (jA k a0 a1 [a2] ([]:(List Int)) ([]:(List Int))).bind λr2=>
 fX r2.1 (if¬(r2.2.2=0) then(some (([]:(List Int)),r2.2.2)) else(none)) (λq3=>if¬(r2.2.2=0) then(some (([]:(List Int)),r2.2.2)) else((eE k q3 r2.2.1 a2).bind λr5=>
 if r5 < 0 then(some (([]:(List Int)),11)) else((iJ k q3 r2.2.1 (a2,r5)).bind λr7=>
 ((eR k r7 k (a2,r5,[a2])):Option ((List Int))).bind λc=>
 (fP k c).bind λe=>
 some (e,0))))
theorem qJ(k:Nat)(a0:ae)(a1:(List Int))(a2:Int)(r:(List Int)×Int)(h:kB k a0 a1 a2=some r):
 cj (dR Tryz.prog) 29 [.rep au a0,.rep Tl a1,I a2] [] (λ_:Unit=>(bJ [.rep Tl r.1,I r.2],[])):=by
 unfold kB at h
 replace h:=bq h
 refine cj.of 64 Tryz.func29 rfl Tryz.ntmps29 rfl λS w0=>?_
 refine sr ?_
 refine bx λb1=>?_
 refine cq ?_
 refine cq ?_
 refine nt ?_
 refine sr ?_
 refine lo jP ?_
 iterate 2 refine mq ?_
 refine ja (bi (t:=Ti) [(.tmp 19,_)] [a2] rfl rfl dy (.cons rfl .int .nil) rfl rfl) ?_
 obtain⟨r2,Y,h⟩:=aa h
 have u:=lF k a0 a1 [a2] ([]:(List Int)) ([]:(List Int)) r2 Y
 rcases hr:r2.1 with _ |q3
 .
  rw [hr] at h u;replace h:=vv h;refine aL (Δ:=[]) (F:=_) (λ_ _ _=>ag rfl _) rfl rfl (bN (N:=[(.tmp 17,.rep au a0),(.tmp 18,.rep Tl a1),(.tmp 20,.rep Tl [a2]),(.const (.slice none 0 0),.eq (.slice none 0 0)),(.const (.slice none 0 0),.eq (.slice none 0 0))]) (aY [.tmp 17,.tmp 18,.tmp 20,.const (.slice none 0 0),.const (.slice none 0 0)] rfl rfl zm rfl u) λ_ _ _ hn=>⟨hn.1,hn.2.1,hn.2.2.1,(aF (t:=Tl) (x:=([]:(List Int))) .nil rfl rfl hn.2.2.2.1),(aF (t:=Tl) (x:=([]:(List Int))) .nil rfl rfl hn.2.2.2.2.1),trivial⟩) ⟨rfl,rfl,rfl,rfl,rfl,trivial⟩ λ_=>?_;refine mq ?_;refine xr ?_;refine xr ?_;refine xr ?_;refine aq ?_;refine aq ?_;refine aq (nt (ak (sr ?_)));refine mq ?_;refine jb (eZ rfl) ?_;refine nt (cn h (λh=>?_) (λh=>?_))
  .refine sr (mq ?_);refine cq ?_;refine aq (nt (rx ?_));refine bX (eB (t:=Tl) (x:=([]:(List Int))) 6 rfl .nil rfl rfl) ?_;cases h;exact rb
  .cases h
 .
  rw [hr] at h u;replace h:=vu h;refine aL (Δ:=[]) (F:=_) (λ_ _ _=>ag rfl _) rfl rfl (bN (N:=[(.tmp 17,.rep au a0),(.tmp 18,.rep Tl a1),(.tmp 20,.rep Tl [a2]),(.const (.slice none 0 0),.eq (.slice none 0 0)),(.const (.slice none 0 0),.eq (.slice none 0 0))]) (aY [.tmp 17,.tmp 18,.tmp 20,.const (.slice none 0 0),.const (.slice none 0 0)] rfl rfl zm rfl u) λ_ _ _ hn=>⟨hn.1,hn.2.1,hn.2.2.1,(aF (t:=Tl) (x:=([]:(List Int))) .nil rfl rfl hn.2.2.2.1),(aF (t:=Tl) (x:=([]:(List Int))) .nil rfl rfl hn.2.2.2.2.1),trivial⟩) ⟨rfl,rfl,rfl,rfl,rfl,trivial⟩ λz4=>?_;refine mq ?_;refine xr ?_;refine xr ?_;refine xr ?_;refine aq ?_;refine aq ?_;refine aq (nt (ak (sr ?_)));refine mq ?_;refine jb (eZ rfl) ?_;refine nt (cn h (λh=>?_) (λh=>?_))
  .refine sr (mq ?_);refine cq ?_;refine aq (nt (rx ?_));refine bX (eB (t:=Tl) (x:=([]:(List Int))) 6 rfl .nil rfl rfl) ?_;cases h;exact rb
  .refine sk (sr ?_);iterate 3 refine mq ?_
   obtain⟨r5,X,h⟩:=aa h;refine fr 1 ?_;refine fr 1 ?_;refine aL (Δ:=[_,_]) (F:=_) (λ_ _ _=>ag rfl _) rfl rfl (aY [.tmp 28,.tmp 29,.tmp 30] rfl rfl P8 rfl (kU k q3 z4.1 z4.2 r2.2.1 a2 r5 X)) ⟨rfl,rfl,rfl,trivial⟩ λ_=>?_;refine aq (nt (ak (sr ?_)));refine mq ?_;refine jb (bA rfl) ?_;refine nt (ci h (λh=>?_) (λh=>?_))
   .refine sr (cq ?_);refine cq (nt (rx ?_));refine bX (eB (t:=Tl) (x:=([]:(List Int))) 6 rfl .nil rfl rfl) ?_;cases h;exact rb
   .refine sk (sr ?_);iterate 2 refine mq ?_
    refine jb (ee [(0,.tmp 34,_),(1,.tmp 35,_)] rfl Ge sO Bi (j7 ⟨rfl,rfl,trivial⟩) rfl) ?_;refine bg rfl rfl rfl (bI rfl sO zF) trivial λb6=>?_;refine aW rfl rfl (aS rfl jw trivial rfl rfl) ⟨rfl,rfl,trivial⟩ ?_;refine nt (sr ?_);iterate 2 refine mq ?_
    refine lo jw ?_;obtain⟨r7,U,h⟩:=aa h;refine fr 2 ?_;refine fr 2 ?_;refine aL (Δ:=[_,_]) (F:=_) (λ_ _ _=>ag rfl _) rfl rfl (bN (N:=[(.tmp 37,.eq (.pointer (some ⟨z4.1,0,none⟩))),(.tmp 38,.eq (.int .u8 r2.2.1)),(.tmp 39,.agg (.pair (I a2) (I r5)))]) (aY [.tmp 37,.tmp 38,.tmp 39] rfl rfl RV rfl (qH k q3 z4.1 z4.2 r2.2.1 (a2,r5) r7 U)) λ_ _ _ hn=>⟨hn.1,hn.2.1,(aF (t:=bM) (x:=(a2,r5)) (.agg (.pair .int .int)) trivial rfl hn.2.2.1),trivial⟩) ⟨rfl,rfl,rfl,trivial⟩ λz8=>?_;refine aq (nt (sr ?_));refine mq ?_;refine bg rfl rfl rfl (mJ (t:=Ti) [(.tmp 41,_)] [a2] rfl rfl dy (.cons rfl .int .nil) rfl rfl) ⟨rfl,trivial⟩ λv9=>?_;refine aq (nt ?_);refine aG (Z:=Value) (α:=(List Int)) (λj s=>[(13,.eq (.map (some z8))),(14,.eq j)]) (λj s=>[.sl j 3 Ti s,.inv z4.2 (bW k q3),.inv z8 (sY r7)]) h (λK h=>?_) (λj s h=>?_)
    .refine sr (ja (ee [(0,.const (.int .i64 (-1)),_)] rfl Ge sO Bi (j7 ⟨rfl,trivial⟩) rfl) ?_);refine bg rfl rfl rfl (bI rfl sO zF) trivial λmw=>?_;refine aW rfl rfl (aS rfl jw trivial rfl rfl) ⟨rfl,rfl,trivial⟩ ?_;refine nt (aj (aH (λe c=>[(12,Pt b6),(13,.eq (.map (some z8))),(14,.eq e.1),(15,.eq (.pointer (some ⟨e.2,0,none⟩)))]) (λe c=>[.obj b6 110 (.agg (.pair (I c.1) (I c.2.1))),.sl e.1 3 Ti c.2.2,.obj e.2 110 (.agg (.pair (I (-1:Int)) (I 0))),.inv z4.2 (bW k q3),.inv z8 (sY r7)]) (eR k r7) k (v9,mw) (a2,r5,[a2]) (λ_=>rfl) h (SE.fin [5,1,0,4,2] ⟨rfl,rfl,rfl,rfl,trivial⟩ rfl) (λn e c h=>?_)));unfold eR at h;refine ak (ak (cP ?_));refine dm ?_;refine ea 0 (ay rfl jw (vk) rfl) ?_;obtain⟨TV,J,h⟩:=aa h;refine eb 4 (bN (N:=[(.tmp 44,.eq (.map (some z8))),(.tmp 45,.agg (.pair (I c.1) (I c.2.1)))]) (rJ (K:=kJ) (V:=kJ) (t:=(c.1,c.2.1)) (l:=r7) (λn=>.rep bM n) tL rfl EB (0,0) tJ lZ (λ_ _ _ h=>mE h) (qm (ao J)) (ql _) qo) λ_ _ _ hn=>⟨hn.1,(aF (t:=bM) (x:=(c.1,c.2.1)) (.agg (.pair .int .int)) trivial rfl hn.2.1),trivial⟩) ?_;refine ea 2 (ay rfl jw (vk) rfl) ?_;refine df dN ?_;refine eV (eB (t:=bM) (x:=((-1:Int),0)) 47 rfl (.agg (.pair .int .int)) trivial rfl) ?_;refine jb (Nc rfl PX rfl) ?_;refine nt (cn h (λh=>?_) (λh=>?_))
     .refine sk (ak (aj (ab ?_)));iterate 2 refine mq ?_
      refine lo jw ?_;refine eV (eB (t:=bM) (x:=(c.1,c.2.1)) 54 rfl (.agg (.pair .int .int)) trivial rfl) ?_;obtain⟨u16,E,h⟩:=aa h;refine fr 4 ?_;refine kb (bN (N:=[(.tmp 53,.eq (.map (some z8))),(.tmp 54,.rep bM (c.1,c.2.1))]) (rJ (K:=kJ) (V:=kJ) (t:=(c.1,c.2.1)) (l:=r7) (λn=>.rep bM n) tL rfl EB (0,0) tJ lZ (λ_ _ _ h=>mE h) (qm (ao E)) (ql _) qo) λ_ _ _ hn=>⟨hn.1,hn.2.1,trivial⟩) ?_;refine ja (Jp rfl SU rfl bV (λ_=>rfl) rfl rfl rfl) ?_;refine ja (bi (t:=Ti) [(.tmp 56,_)] [(ik r7 (c.1,c.2.1) (0,0)).1] rfl rfl dy (.cons rfl .int .nil) rfl rfl) ?_;obtain⟨zz,D,h⟩:=aa h;refine fr 2 ?_;refine ek rfl rfl rfl (cH rfl rfl dy (ao D)) ⟨rfl,rfl,trivial⟩ λO=>?_;refine aq (aA (aX (tn (ak (sr ?_)))));refine fr 3 ?_;refine lo jw ?_;refine nt (ab (bg rfl rfl rfl (bI rfl sO zF) trivial λmc=>?_));refine aW rfl rfl (aS rfl jw trivial rfl rfl) ⟨rfl,rfl,trivial⟩ ?_;refine nt (ab (mq ?_));refine fr 4 ?_;refine lo jw ?_;refine eV (eB (t:=bM) (x:=(c.1,c.2.1)) 50 rfl (.agg (.pair .int .int)) trivial rfl) ?_;obtain⟨qt,y,h⟩:=aa h;refine fr 4 ?_;refine kb (bN (N:=[(.tmp 49,.eq (.map (some z8))),(.tmp 50,.rep bM (c.1,c.2.1))]) (rJ (K:=kJ) (V:=kJ) (t:=(c.1,c.2.1)) (l:=r7) (λn=>.rep bM n) tL rfl EB (0,0) tJ lZ (λ_ _ _ h=>mE h) (qm (ao y)) (ql _) qo) λ_ _ _ hn=>⟨hn.1,hn.2.1,trivial⟩) ?_;refine fr 1 ?_;refine aW rfl rfl (aS rfl jw rfl rfl rfl) ⟨rfl,rfl,trivial⟩ ?_;refine nl (bX (ju (a:=.rep bM (ik r7 (c.1,c.2.1) (0,0))) (a':=.agg (.pair (I ((ik r7 (c.1,c.2.1) (0,0)).1)) (I ((ik r7 (c.1,c.2.1) (0,0)).2)))) (AE.trans Dp (AE.agg (AE.trans zS (AE.pair AE.int AE.int))))) ?_);exact jz ((O,mc),((ik r7 (c.1,c.2.1) (0,0)).1,(ik r7 (c.1,c.2.1) (0,0)).2,c.2.2++[(ik r7 (c.1,c.2.1) (0,0)).1])) h [0,4,2,5,1]
     .refine xa ?_;exact jz (e.1,c.2.2) h [1,3,4]
    .refine sr (mq ?_);refine fr 2 ?_;refine aW rfl rfl (Gq rfl rfl EB) ⟨rfl,trivial⟩ ?_;refine nt (sr (mq ?_));obtain⟨Q,M,h⟩:=aa h;refine fr 1 ?_;refine ka (av [.tmp 61] rfl rfl RU rfl (pz k s j Q M)) ?_;refine nt (sr (mq ?_));refine aq ?_;refine cq (nt (ax ?_));refine bX (iR [6,14,61,63] ⟨rfl,rfl,rfl,rfl,trivial⟩) ?_;cases h;exact rb
def lH(k:Nat)(a0:ae)(a1:Int)(r2:(Option ae)×(List Int)×Int)(q3:ae)(y7:(List Int)×Int):Nat->(Int×Int)->Option Int
 |0,_=>none
 |n+1,c=>
  if c.2 < (r2.2.1.length:Int) then((((aJ r2.2.1 c.2).bind λr=>
  (lb k q3 r).bind λu=>
  (aJ u a1).bind λl=>
  (aJ l y7.2).bind λj=>
  if a0.2.2.1≤j then((ck (c.1+1)).bind λh=>
  some h) else(some c.1)):Option (Int)).bind λs=>
  (ck (c.2+1)).bind λe=>
  lH k a0 a1 r2 q3 y7 n (s,e)) else(some c.1)
def lI(k:Nat)(a0:ae)(a1:Int)(r2:(Option ae)×(List Int)×Int)(q3:ae):Nat->((List Int)×Int)->Option (List Int)
 |0,_=>none
 |n+1,y7=>
  if y7.2 < a0.1 then(((((lH k a0 a1 r2 q3 y7 k (0,0)):Option (Int)).bind λc=>
  (ck ((r2.2.1.length:Int) - c)).bind λe=>
  (cN (cu (length y7.1+length [sb c e]))).bind λ_=>
  some (y7.1++[sb c e])):Option ((List Int))).bind λx9=>
  (ck (y7.2+1)).bind λh=>
  lI k a0 a1 r2 q3 n (x9,h)) else(some y7.1)
def uf(k:Nat)(a0:ae)(a1:Int):Option (Int×Int×Int):=
 (mg k a0 ([]:(List Int)) ([]:(List Int)) [a1]).bind λr2=>
 fX r2.1 (if¬(r2.2.2=0) then(some (0,0,r2.2.2)) else(none)) (λq3=>if¬(r2.2.2=0) then(some (0,0,r2.2.2)) else(((lI k a0 a1 r2 q3 k (([]:(List Int)),0)):Option ((List Int))).bind λx5=>
 (lA k x5).bind λc=>
 if(r2.2.1.length:Int)≤c then(some (0,0,11)) else((fV k x5 c).bind λe=>
 some (e,c,0))))
theorem yU(k:Nat)(a0:ae)(a1:Int)(r:Int×Int×Int)(h:uf k a0 a1=some r):
 cj (dR Tryz.prog) 48 [.rep au a0,I a1] [] (λ_:Unit=>(bJ [I r.1,I r.2.1,I r.2.2],[])):=by
 unfold uf at h
 replace h:=bq h
 refine cj.of 71 Tryz.func48 rfl Tryz.ntmps48 rfl λS w0=>?_
 refine sr ?_
 refine bx λb1=>?_
 refine cq ?_
 refine cq ?_
 refine cq ?_
 refine nt ?_
 refine sr ?_
 refine lo jP ?_
 refine mq ?_
 refine ja (bi (t:=Ti) [(.tmp 18,_)] [a1] rfl rfl dy (.cons rfl .int .nil) rfl rfl) ?_
 obtain⟨r2,Ub,h⟩:=aa h
 have s:=mN k a0 ([]:(List Int)) ([]:(List Int)) [a1] r2 Ub
 rcases hr:r2.1 with _ |q3
 .
  rw [hr] at h s;replace h:=vv h;refine aL (Δ:=[]) (F:=_) (λ_ _ _=>ag rfl _) rfl rfl (bN (N:=[(.tmp 17,.rep au a0),(.const (.slice none 0 0),.eq (.slice none 0 0)),(.const (.slice none 0 0),.eq (.slice none 0 0)),(.tmp 19,.rep Tl [a1])]) (aY [.tmp 17,.const (.slice none 0 0),.const (.slice none 0 0),.tmp 19] rfl rfl Ea rfl s) λ_ _ _ hn=>⟨hn.1,(aF (t:=Tl) (x:=([]:(List Int))) .nil rfl rfl hn.2.1),(aF (t:=Tl) (x:=([]:(List Int))) .nil rfl rfl hn.2.2.1),hn.2.2.2.1,trivial⟩) ⟨rfl,rfl,rfl,rfl,trivial⟩ λ_=>?_;refine mq ?_;refine xr ?_;refine xr ?_;refine xr ?_;refine aq ?_;refine aq ?_;refine aq (nt (ak (sr ?_)));refine mq ?_;refine jb (eZ rfl) ?_;refine nt (cn h (λh=>?_) (λh=>?_))
  .refine sr (mq ?_);refine cq ?_;refine cq ?_;refine aq (nt (rx ?_));cases h;exact aP () [_,_,_] 0 ⟨rfl,rfl,rfl,trivial⟩ rfl
  .cases h
 .
  rw [hr] at h s;replace h:=vu h;refine aL (Δ:=[]) (F:=_) (λ_ _ _=>ag rfl _) rfl rfl (bN (N:=[(.tmp 17,.rep au a0),(.const (.slice none 0 0),.eq (.slice none 0 0)),(.const (.slice none 0 0),.eq (.slice none 0 0)),(.tmp 19,.rep Tl [a1])]) (aY [.tmp 17,.const (.slice none 0 0),.const (.slice none 0 0),.tmp 19] rfl rfl Ea rfl s) λ_ _ _ hn=>⟨hn.1,(aF (t:=Tl) (x:=([]:(List Int))) .nil rfl rfl hn.2.1),(aF (t:=Tl) (x:=([]:(List Int))) .nil rfl rfl hn.2.2.1),hn.2.2.2.1,trivial⟩) ⟨rfl,rfl,rfl,rfl,trivial⟩ λz4=>?_;refine mq ?_;refine xr ?_;refine xr ?_;refine xr ?_;refine aq ?_;refine aq ?_;refine aq (nt (ak (sr ?_)));refine mq ?_;refine jb (eZ rfl) ?_;refine nt (cn h (λh=>?_) (λh=>?_))
  .refine sr (mq ?_);refine cq ?_;refine cq ?_;refine aq (nt (rx ?_));cases h;exact aP () [_,_,_] 0 ⟨rfl,rfl,rfl,trivial⟩ rfl
  .refine sk (sr (cq (nt ?_)));refine aG (Z:=Value) (α:=(List Int)) (λz6 x5=>[(8,.rep (.slice (.int .u8)) r2.2.1),(10,.eq z6)]) (λz6 x5=>[.sl z6 3 Ti x5,.inv z4.2 (bW k q3)]) h (λK h=>?_) (λz6 x5 h=>?_)
   .refine sr (fl gp ?_);refine fr 2 ?_;refine lo bV ?_;refine fa rfl ?_;refine nt (aj (jN (SE.nil 3 Ti) ?_));refine aH (λz8 y7=>[(1,I a1),(2,Pt b1),(7,.eq (.pointer (some ⟨z4.1,0,none⟩))),(8,.rep (.slice (.int .u8)) r2.2.1),(10,.eq z8),(28,I a0.1),(29,I y7.2)]) (λz8 y7=>[.obj b1 26 (.rep au a0),.obj z4.1 129 (aR q3 z4.2),.sl z8 3 Ti y7.1,.inv z4.2 (bW k q3)]) (lI k a0 a1 r2 q3) k (.slice none 0 0) (([]:(List Int)),0) (λ_=>rfl) h (SE.fin [1,2,0,3] ⟨rfl,rfl,rfl,rfl,rfl,rfl,rfl,trivial⟩ rfl) (λn z8 y7 h=>?_);unfold lI at h;refine sr (jb (bA rfl) ?_);refine nt (ak (ci h (λh=>?_) (λh=>?_)))
    .refine sk (aG (Z:=Value) (α:=(List Int)) (λe x9=>[(1,I a1),(2,Pt b1),(7,.eq (.pointer (some ⟨z4.1,0,none⟩))),(8,.rep (.slice (.int .u8)) r2.2.1),(10,.eq e),(28,I a0.1),(29,I y7.2)]) (λe x9=>[.obj b1 26 (.rep au a0),.obj z4.1 129 (aR q3 z4.2),.sl e 3 Ti x9,.inv z4.2 (bW k q3)]) h (λK h=>?_) (λe x9 h=>?_))
     .refine aj (sr (mq ?_));refine aq (nt (sr ?_));refine cq (nt ?_);refine aG (Z:=Unit) (α:=Int) (λE j=>[(1,I a1),(2,Pt b1),(7,.eq (.pointer (some ⟨z4.1,0,none⟩))),(8,.rep (.slice (.int .u8)) r2.2.1),(10,.eq z8),(12,I j),(28,I a0.1),(29,I y7.2)]) (λE j=>[.obj b1 26 (.rep au a0),.obj z4.1 129 (aR q3 z4.2),.sl z8 3 Ti y7.1,.inv z4.2 (bW k q3)]) h (λK h=>?_) (λE j h=>?_)
      .refine sr (mq ?_);refine ol zZ ?_;refine fa rfl ?_;refine nt (aj (aH (λD c=>[(1,I a1),(2,Pt b1),(7,.eq (.pointer (some ⟨z4.1,0,none⟩))),(8,.rep (.slice (.int .u8)) r2.2.1),(10,.eq z8),(11,I y7.2),(12,I c.1),(28,I a0.1),(29,I y7.2),(32,.rep (.slice (.int .u8)) r2.2.1),(33,I (r2.2.1.length:Int)),(34,I c.2)]) (λD c=>[.obj b1 26 (.rep au a0),.obj z4.1 129 (aR q3 z4.2),.sl z8 3 Ti y7.1,.inv z4.2 (bW k q3)]) (lH k a0 a1 r2 q3 y7) k () (0,0) (λ_=>rfl) h (SE.fin [0,1,2,3] ⟨rfl,rfl,rfl,rfl,rfl,rfl,rfl,rfl,rfl,rfl,rfl,rfl,trivial⟩ rfl) (λn D c h=>?_)));unfold lH at h;refine sr (jb (bA rfl) ?_);refine nt (ak (ci h (λh=>?_) (λh=>?_)))
       .refine sk (aG (Z:=Unit) (α:=Int) (λy l=>[(1,I a1),(2,Pt b1),(7,.eq (.pointer (some ⟨z4.1,0,none⟩))),(8,.rep (.slice (.int .u8)) r2.2.1),(10,.eq z8),(11,I y7.2),(12,I l),(28,I a0.1),(29,I y7.2),(32,.rep (.slice (.int .u8)) r2.2.1),(33,I (r2.2.1.length:Int)),(34,I c.2)]) (λy l=>[.obj b1 26 (.rep au a0),.obj z4.1 129 (aR q3 z4.2),.sl z8 3 Ti y7.1,.inv z4.2 (bW k q3)]) h (λK h=>?_) (λy l h=>?_))
        .refine aj (sr ?_);obtain⟨TZ,mc,h⟩:=aa h;refine jb (aI (t:=(.int .u8)) rfl zZ pw mc) ?_;refine ja (am (t:=(.int .u8)) rfl pw rfl) ?_;refine aq (nt (ak ?_));refine cP ?_;refine dm ?_;refine dm ?_;obtain⟨Ua,TV,h⟩:=aa h;refine Ou 1 3 rfl rfl (by kernel_rfl) rfl rfl rfl (aY [.tmp 38,.tmp 39] rfl rfl Eb rfl (oN k q3 z4.1 z4.2 TZ Ua TV)) ⟨rfl,rfl,trivial⟩ ?_;refine dm ?_;obtain⟨Ud,Y,h⟩:=aa h;refine db (nK (t:=Tr) rfl IB iV rfl rfl (vk) Y) ?_;refine dm ?_;obtain⟨Uc,X,h⟩:=aa h;refine db (nK (t:=Ti) rfl Bm bV rfl rfl (λ_=>rfl) X) ?_;refine da (aK rfl A4) ?_;refine ea 0 (ay rfl bV pH rfl) ?_;refine df dN ?_;refine jb (iC rfl) ?_;refine nt (ci h (λh=>?_) (λh=>?_))
         .refine ab (mq ?_);obtain⟨TY,U,h⟩:=aa h;refine jb (bo rfl U) ?_;refine aq (aA (bn ?_));exact jz ((),TY) h [0,1,2,3]
         .refine bf (bn ?_);exact jz ((),c.1) h [0,1,2,3]
        .refine ab ?_;obtain⟨TX,Q,h⟩:=aa h;refine jb (bo rfl Q) ?_;refine mq (nl ?_);exact jz ((),(l,TX)) h [0,1,2,3]
       .refine xa ?_;exact jz ((),c.1) h [0,1,2,3]
      .refine ab ?_;iterate 3 refine mq ?_
       refine ol zZ ?_;refine mq ?_;obtain⟨J,O,h⟩:=aa h;refine jb (dY rfl O) ?_;refine jb (Gk rfl rfl) ?_;refine ja (bi (t:=Ti) [(.tmp 57,_)] [sb j J] rfl rfl dy (.cons rfl .int .nil) rfl rfl) ?_;obtain⟨Ue,mw,h⟩:=aa h;refine fr 2 ?_;refine ek rfl rfl rfl (cH rfl rfl dy (ao mw)) ⟨rfl,rfl,trivial⟩ λT8=>?_;refine aq (aA (bn ?_));exact jz (T8,y7.1++[sb j J]) h [1,2,0,3]
     .refine ab ?_;obtain⟨TW,M,h⟩:=aa h;refine jb (bo rfl M) ?_;refine mq (nl ?_);exact jz (e,(x9,TW)) h [0,1,2,3]
    .refine xa ?_;exact jz (z8,y7.1) h [2,3]
   .refine sr (mq ?_);obtain⟨u,zz,h⟩:=aa h;refine ka (ll (N:=[(.tmp 61,.eq z6)]) (av [.tmp 61] rfl rfl P7 rfl (nD k x5 u zz)) (λ_ _ _ hv hn=>⟨(lend hn.1 hv),trivial⟩) (λ_=>⟨rfl,nW⟩)) ?_;refine aq (nt (ak (sr ?_)));iterate 2 refine mq ?_
    refine ol zZ ?_;refine jb (iC rfl) ?_;refine nt (ci h (λh=>?_) (λh=>?_))
    .refine sr (cq ?_);refine cq ?_;refine cq (nt (rx ?_));cases h;exact aP () [_,_,_] 0 ⟨rfl,rfl,rfl,trivial⟩ rfl
    .refine sk (sr ?_);iterate 2 refine mq ?_
     obtain⟨T9,qt,h⟩:=aa h;refine kb (ll (N:=[(.tmp 67,.eq z6),(.tmp 68,I u)]) (av [.tmp 67,.tmp 68] rfl rfl P2 rfl (l7 k x5 u T9 qt)) (λ_ _ _ hv hn=>⟨(lend hn.1 hv),hn.2.1,trivial⟩) (λ_=>⟨rfl,nW⟩)) ?_;refine mq ?_;refine aq ?_;refine aq ?_;refine cq (nt (ax ?_));cases h;exact aP () [_,_,_] 0 ⟨rfl,rfl,rfl,trivial⟩ rfl
def qL(k:Nat):Option Bool:=
 (ip k ([]:(List bY))).bind λr1=>
 (i9 k r1 [0]).bind λr2=>
 (ip k ([]:(List bY))).bind λr3=>
 (pQ k r3).bind λr4=>
 (ip k ([]:(List bY))).bind λr5=>
 (rT k r5 2).bind λr6=>
 (ip k ([]:(List bY))).bind λr8=>
 (kB k r8 [0] 3).bind λr9=>
 (ip k ([]:(List bY))).bind λu=>
 (uf k u 2).bind λc=>
 (ip k ([]:(List bY))).bind λs=>
 (pP k s 2).bind λe=>
 ((if r2.2=0 then(if r4.2=0 then(if r6.2=0 then(if r9.2=0 then(if c.2.2=0 then(if e.2=0 then(if r6.1=(1,3) then(if c.1=2 then(if c.2.1=2 then((jt k r2.1 [[1,(-1:Int),(-1:Int),(-1:Int)],[2,0,(-1:Int),(-1:Int)],[3,1,(-1:Int),(-1:Int)],[3,2,0,(-1:Int)],[(-1:Int),3,1,0]]).bind λr=>
 if r=true then((jt k r4.1 [[0],[0,1],[1]]).bind λn=>
 if n=true then((iM k r9.1 [0,1,3]).bind λl=>
 if l=true then((iM k e.1 [1,2]).bind λj=>
 some j) else(some false)) else(some false)) else(some false)) else(some false)) else(some false)) else(some false)) else(some false)) else(some false)) else(some false)) else(some false)) else(some false)) else(some false)):Option (Bool)).bind λh=>
 some h
theorem zf(k:Nat)(r:Bool)(h:qL k=some r):
 cj (dR Tryz.prog) 17 [] [] (λ_:Unit=>(bJ [.eq (.bool r)],[])):=by
 unfold qL at h
 replace h:=bq h
 refine cj.of 110 Tryz.func17 rfl Tryz.ntmps17 rfl λS w0=>?_
 refine sr ?_
 refine cq ?_
 refine nt ?_
 refine sr ?_
 obtain⟨r1,Ua,h⟩:=aa h
 have Ui:=gA k ([]:(List bY)) r1 Ua
 refine ja (bN (N:=[(.const (.slice none 0 0),.eq (.slice none 0 0))]) (av [.const (.slice none 0 0)] rfl rfl D9 rfl Ui) λ_ _ _ hn=>⟨(aF (t:=(.slice bR)) (x:=([]:(List bY))) .nil rfl rfl hn.1),trivial⟩) ?_
 refine ja (bi (t:=Ti) [(.const (.int .i64 (0)),_)] [0] rfl rfl dy (.cons rfl .int .nil) rfl rfl) ?_
 obtain⟨r2,T9,h⟩:=aa h
 have Uh:=pm k r1 [0] r2 T9
 refine jb (aY [.tmp 15,.tmp 16] rfl rfl Qh rfl Uh) ?_
 refine mq ?_
 refine xr ?_
 refine xr ?_
 refine aq ?_
 refine aq ?_
 refine nt ?_
 refine sr ?_
 obtain⟨r3,T8,h⟩:=aa h
 have Ug:=gA k ([]:(List bY)) r3 T8
 refine ja (bN (N:=[(.const (.slice none 0 0),.eq (.slice none 0 0))]) (av [.const (.slice none 0 0)] rfl rfl D9 rfl Ug) λ_ _ _ hn=>⟨(aF (t:=(.slice bR)) (x:=([]:(List bY))) .nil rfl rfl hn.1),trivial⟩) ?_
 obtain⟨r4,TZ,h⟩:=aa h
 have Uf:=vq k r3 r4 TZ
 refine ja (aY [.tmp 21] rfl rfl SI rfl Uf) ?_
 refine mq ?_
 refine xr ?_
 refine xr ?_
 refine aq ?_
 refine aq ?_
 refine nt ?_
 refine sr ?_
 obtain⟨r5,TY,h⟩:=aa h
 have Ue:=gA k ([]:(List bY)) r5 TY
 refine ja (bN (N:=[(.const (.slice none 0 0),.eq (.slice none 0 0))]) (av [.const (.slice none 0 0)] rfl rfl D9 rfl Ue) λ_ _ _ hn=>⟨(aF (t:=(.slice bR)) (x:=([]:(List bY))) .nil rfl rfl hn.1),trivial⟩) ?_
 obtain⟨r6,TX,h⟩:=aa h
 have Ud:=xk k r5 2 r6 TX
 refine jb (aY [.tmp 26,.const (.int .i64 (2))] rfl rfl SG rfl Ud) ?_
 refine mq ?_
 refine xr ?_
 refine xr ?_
 refine bg rfl rfl rfl (bI rfl Aa Qo) trivial λb7=>?_
 refine aW rfl rfl (aS rfl vc rfl rfl rfl) ⟨rfl,rfl,trivial⟩ ?_
 refine aq ?_
 refine nt ?_
 refine sr ?_
 obtain⟨r8,TW,h⟩:=aa h
 have Uc:=gA k ([]:(List bY)) r8 TW
 refine ja (bN (N:=[(.const (.slice none 0 0),.eq (.slice none 0 0))]) (av [.const (.slice none 0 0)] rfl rfl D9 rfl Uc) λ_ _ _ hn=>⟨(aF (t:=(.slice bR)) (x:=([]:(List bY))) .nil rfl rfl hn.1),trivial⟩) ?_
 refine ja (bi (t:=Ti) [(.const (.int .i64 (0)),_)] [0] rfl rfl dy (.cons rfl .int .nil) rfl rfl) ?_
 obtain⟨r9,TV,h⟩:=aa h
 have Ub:=qJ k r8 [0] 3 r9 TV
 refine jc (aY [.tmp 31,.tmp 32,.const (.int .i64 (3))] rfl rfl Qa rfl Ub) ?_
 refine mq ?_
 refine xr ?_
 refine xr ?_
 refine aq ?_
 refine aq ?_
 refine nt ?_
 refine sr ?_
 obtain⟨u,O,h⟩:=aa h
 have Y:=gA k ([]:(List bY)) u O
 refine ja (bN (N:=[(.const (.slice none 0 0),.eq (.slice none 0 0))]) (av [.const (.slice none 0 0)] rfl rfl D9 rfl Y) λ_ _ _ hn=>⟨(aF (t:=(.slice bR)) (x:=([]:(List bY))) .nil rfl rfl hn.1),trivial⟩) ?_
 obtain⟨zz,M,h⟩:=aa h
 have X:=yU k u 2 zz M
 refine jb (aY [.tmp 37,.const (.int .i64 (2))] rfl rfl Sj rfl X) ?_
 refine mq ?_
 refine xr ?_
 refine xr ?_
 refine xr ?_
 refine aq ?_
 refine aq ?_
 refine aq ?_
 refine nt ?_
 refine sr ?_
 obtain⟨n,J,h⟩:=aa h
 have U:=gA k ([]:(List bY)) n J
 refine ja (bN (N:=[(.const (.slice none 0 0),.eq (.slice none 0 0))]) (av [.const (.slice none 0 0)] rfl rfl D9 rfl U) λ_ _ _ hn=>⟨(aF (t:=(.slice bR)) (x:=([]:(List bY))) .nil rfl rfl hn.1),trivial⟩) ?_
 obtain⟨l,I,h⟩:=aa h
 have Q:=vp k n 2 l I
 refine jb (aY [.tmp 43,.const (.int .i64 (2))] rfl rfl SC rfl Q) ?_
 refine mq ?_
 refine xr ?_
 refine xr ?_
 refine aq ?_
 refine aq ?_
 refine nt ?_
 refine aG (Z:=Unit) (α:=Bool) (λe c=>[(0,.eq (.bool c))]) (λe c=>[]) h (λK h=>?_) (λe c h=>?_)
 .
  refine ab (mq ?_);refine jb (iD rfl) ?_;refine mq ?_;refine cE (s:=49) rfl (λhb=>?_) (λhb=>?_)
  .replace h:=ec (sx hb) h;refine gm ?_;refine gb (iD rfl) ?_;refine pt ?_;refine mq ?_;refine cE (s:=53) rfl (λhb=>?_) (λhb=>?_)
   .replace h:=ec (sx hb) h;refine gm ?_;refine gb (iD rfl) ?_;refine pt ?_;refine mq ?_;refine cE (s:=57) rfl (λhb=>?_) (λhb=>?_)
    .replace h:=ec (sx hb) h;refine gm ?_;refine gb (iD rfl) ?_;refine pt ?_;refine mq ?_;refine cE (s:=61) rfl (λhb=>?_) (λhb=>?_)
     .replace h:=ec (sx hb) h;refine gm ?_;refine gb (iD rfl) ?_;refine pt ?_;refine mq ?_;refine cE (s:=65) rfl (λhb=>?_) (λhb=>?_)
      .replace h:=ec (sx hb) h;refine gm ?_;refine gb (iD rfl) ?_;refine pt ?_;refine mq ?_;refine cE (s:=69) rfl (λhb=>?_) (λhb=>?_)
       .replace h:=ec (sx hb) h;refine oh rfl rfl rfl rfl rfl rfl (ay rfl vc (vk) rfl) ⟨rfl,trivial⟩ ?_;refine gb (ee [(0,.const (.int .i64 (1)),_),(1,.const (.int .i64 (3)),_)] rfl F9 Aa zE (j7 ⟨rfl,rfl,trivial⟩) rfl) ?_;refine eV (eB (t:=bM) (x:=(1,3)) 71 rfl (.agg (.pair .int .int)) trivial rfl) ?_;refine gb (Nj rfl RF rfl) ?_;refine pt ?_;refine mq ?_;refine cE (s:=74) rfl (λhb=>?_) (λhb=>?_)
        .replace h:=ec (sx hb) h;refine gm ?_;refine gb (iD rfl) ?_;refine pt ?_;refine mq ?_;refine cE (s:=78) rfl (λhb=>?_) (λhb=>?_)
         .replace h:=ec (sx hb) h;refine gm ?_;refine gb (iD rfl) ?_;refine pt ?_;refine mq ?_;refine cE (s:=82) rfl (λhb=>?_) (λhb=>?_)
          .replace h:=ec (sx hb) h;refine gm ?_;refine lV rfl rfl rfl rfl rfl rfl (bi (t:=Ti) [(.const (.int .i64 (1)),_),(.const (.int .i64 (-1)),_),(.const (.int .i64 (-1)),_),(.const (.int .i64 (-1)),_)] [1,(-1:Int),(-1:Int),(-1:Int)] rfl rfl dy (.cons rfl .int (.cons rfl .int (.cons rfl .int (.cons rfl .int .nil)))) rfl rfl) ⟨rfl,rfl,rfl,rfl,trivial⟩ ?_;refine lV rfl rfl rfl rfl rfl rfl (bi (t:=Ti) [(.const (.int .i64 (2)),_),(.const (.int .i64 (0)),_),(.const (.int .i64 (-1)),_),(.const (.int .i64 (-1)),_)] [2,0,(-1:Int),(-1:Int)] rfl rfl dy (.cons rfl .int (.cons rfl .int (.cons rfl .int (.cons rfl .int .nil)))) rfl rfl) ⟨rfl,rfl,rfl,rfl,trivial⟩ ?_;refine lV rfl rfl rfl rfl rfl rfl (bi (t:=Ti) [(.const (.int .i64 (3)),_),(.const (.int .i64 (1)),_),(.const (.int .i64 (-1)),_),(.const (.int .i64 (-1)),_)] [3,1,(-1:Int),(-1:Int)] rfl rfl dy (.cons rfl .int (.cons rfl .int (.cons rfl .int (.cons rfl .int .nil)))) rfl rfl) ⟨rfl,rfl,rfl,rfl,trivial⟩ ?_;refine lV rfl rfl rfl rfl rfl rfl (bi (t:=Ti) [(.const (.int .i64 (3)),_),(.const (.int .i64 (2)),_),(.const (.int .i64 (0)),_),(.const (.int .i64 (-1)),_)] [3,2,0,(-1:Int)] rfl rfl dy (.cons rfl .int (.cons rfl .int (.cons rfl .int (.cons rfl .int .nil)))) rfl rfl) ⟨rfl,rfl,rfl,rfl,trivial⟩ ?_;refine lV rfl rfl rfl rfl rfl rfl (bi (t:=Ti) [(.const (.int .i64 (-1)),_),(.const (.int .i64 (3)),_),(.const (.int .i64 (1)),_),(.const (.int .i64 (0)),_)] [(-1:Int),3,1,0] rfl rfl dy (.cons rfl .int (.cons rfl .int (.cons rfl .int (.cons rfl .int .nil)))) rfl rfl) ⟨rfl,rfl,rfl,rfl,trivial⟩ ?_;refine lV rfl rfl rfl rfl rfl rfl (bi (t:=Tl) [(.tmp 84,_),(.tmp 85,_),(.tmp 86,_),(.tmp 87,_),(.tmp 88,_)] [[1,(-1:Int),(-1:Int),(-1:Int)],[2,0,(-1:Int),(-1:Int)],[3,1,(-1:Int),(-1:Int)],[3,2,0,(-1:Int)],[(-1:Int),3,1,0]] rfl rfl o5 (.cons rfl .rep (.cons rfl .rep (.cons rfl .rep (.cons rfl .rep (.cons rfl .rep .nil))))) rfl rfl) ⟨rfl,rfl,rfl,rfl,rfl,trivial⟩ ?_;obtain⟨qt,F,h⟩:=aa h;refine gb (av [.tmp 83,.tmp 89] rfl rfl P6 rfl (mj k r2.1 [[1,(-1:Int),(-1:Int),(-1:Int)],[2,0,(-1:Int),(-1:Int)],[3,1,(-1:Int),(-1:Int)],[3,2,0,(-1:Int)],[(-1:Int),3,1,0]] qt F)) ?_;refine pt ?_;refine mq ?_;refine cE (s:=92) rfl (λhb=>?_) (λhb=>?_)
           .replace h:=ec (IS hb) h;refine gm ?_;refine ga (bi (t:=Ti) [(.const (.int .i64 (0)),_)] [0] rfl rfl dy (.cons rfl .int .nil) rfl rfl) ?_;refine gb (bi (t:=Ti) [(.const (.int .i64 (0)),_),(.const (.int .i64 (1)),_)] [0,1] rfl rfl dy (.cons rfl .int (.cons rfl .int .nil)) rfl rfl) ?_;refine ga (bi (t:=Ti) [(.const (.int .i64 (1)),_)] [1] rfl rfl dy (.cons rfl .int .nil) rfl rfl) ?_;refine gc (bi (t:=Tl) [(.tmp 94,_),(.tmp 95,_),(.tmp 96,_)] [[0],[0,1],[1]] rfl rfl o5 (.cons rfl .rep (.cons rfl .rep (.cons rfl .rep .nil))) rfl rfl) ?_;obtain⟨mw,E,h⟩:=aa h;refine gb (av [.tmp 93,.tmp 97] rfl rfl P6 rfl (mj k r4.1 [[0],[0,1],[1]] mw E)) ?_;refine pt ?_;refine mq ?_;refine cE (s:=100) rfl (λhb=>?_) (λhb=>?_)
            .replace h:=ec (IS hb) h;refine gm ?_;refine gc (bi (t:=Ti) [(.const (.int .i64 (0)),_),(.const (.int .i64 (1)),_),(.const (.int .i64 (3)),_)] [0,1,3] rfl rfl dy (.cons rfl .int (.cons rfl .int (.cons rfl .int .nil))) rfl rfl) ?_;obtain⟨mc,D,h⟩:=aa h;refine gb (av [.tmp 101,.tmp 102] rfl rfl NR rfl (jX k r9.1 [0,1,3] mc D)) ?_;refine pt ?_;refine mq ?_;refine cE (s:=105) rfl (λhb=>?_) (λhb=>?_)
             .replace h:=ec (IS hb) h;refine gm ?_;refine gb (bi (t:=Ti) [(.const (.int .i64 (1)),_),(.const (.int .i64 (2)),_)] [1,2] rfl rfl dy (.cons rfl .int (.cons rfl .int .nil)) rfl rfl) ?_;obtain⟨j,y,h⟩:=aa h;refine gb (av [.tmp 106,.tmp 107] rfl rfl NR rfl (jX k l.1 [1,2] j y)) ?_;refine pt ?_;refine aq (nl ?_);exact jz ((),j) h []
             .replace h:=cJ (IT hb) h;iterate 3 refine gn ?_
              refine pf ?_;refine aq (nl ?_);exact jz ((),false) h []
            .replace h:=cJ (IT hb) h;iterate 3 refine gn ?_
             refine pf ?_;refine mq ?_;iterate 3 refine gn ?_
             refine pf ?_;refine aq (nl ?_);exact jz ((),false) h []
           .replace h:=cJ (IT hb) h;iterate 6 refine gn ?_
            refine pf ?_;refine mq ?_;iterate 3 refine gn ?_
            refine pf ?_;refine mq ?_;iterate 3 refine gn ?_
            refine pf ?_;refine aq (nl ?_);exact jz ((),false) h []
          .replace h:=cJ (sB hb) h;iterate 8 refine gn ?_
           refine pf ?_;refine mq ?_;iterate 6 refine gn ?_
           refine pf ?_;refine mq ?_;iterate 3 refine gn ?_
           refine pf ?_;refine mq ?_;iterate 3 refine gn ?_
           refine pf ?_;refine aq (nl ?_);exact jz ((),false) h []
         .replace h:=cJ (sB hb) h;iterate 2 refine gn ?_
          refine pf ?_;refine mq ?_;iterate 8 refine gn ?_
          refine pf ?_;refine mq ?_;iterate 6 refine gn ?_
          refine pf ?_;refine mq ?_;iterate 3 refine gn ?_
          refine pf ?_;refine mq ?_;iterate 3 refine gn ?_
          refine pf ?_;refine aq (nl ?_);exact jz ((),false) h []
        .replace h:=cJ (sB hb) h;iterate 2 refine gn ?_
         refine pf ?_;refine mq ?_;iterate 2 refine gn ?_
         refine pf ?_;refine mq ?_;iterate 8 refine gn ?_
         refine pf ?_;refine mq ?_;iterate 6 refine gn ?_
         refine pf ?_;refine mq ?_;iterate 3 refine gn ?_
         refine pf ?_;refine mq ?_;iterate 3 refine gn ?_
         refine pf ?_;refine aq (nl ?_);exact jz ((),false) h []
       .replace h:=cJ (sB hb) h;iterate 3 refine gn ?_
        refine pf ?_;refine mq ?_;iterate 2 refine gn ?_
        refine pf ?_;refine mq ?_;iterate 2 refine gn ?_
        refine pf ?_;refine mq ?_;iterate 8 refine gn ?_
        refine pf ?_;refine mq ?_;iterate 6 refine gn ?_
        refine pf ?_;refine mq ?_;iterate 3 refine gn ?_
        refine pf ?_;refine mq ?_;iterate 3 refine gn ?_
        refine pf ?_;refine aq (nl ?_);exact jz ((),false) h []
      .replace h:=cJ (sB hb) h;iterate 2 refine gn ?_
       refine pf ?_;refine mq ?_;iterate 3 refine gn ?_
       refine pf ?_;refine mq ?_;iterate 2 refine gn ?_
       refine pf ?_;refine mq ?_;iterate 2 refine gn ?_
       refine pf ?_;refine mq ?_;iterate 8 refine gn ?_
       refine pf ?_;refine mq ?_;iterate 6 refine gn ?_
       refine pf ?_;refine mq ?_;iterate 3 refine gn ?_
       refine pf ?_;refine mq ?_;iterate 3 refine gn ?_
       refine pf ?_;refine aq (nl ?_);exact jz ((),false) h []
     .replace h:=cJ (sB hb) h;iterate 2 refine gn ?_
      refine pf ?_;refine mq ?_;iterate 2 refine gn ?_
      refine pf ?_;refine mq ?_;iterate 3 refine gn ?_
      refine pf ?_;refine mq ?_;iterate 2 refine gn ?_
      refine pf ?_;refine mq ?_;iterate 2 refine gn ?_
      refine pf ?_;refine mq ?_;iterate 8 refine gn ?_
      refine pf ?_;refine mq ?_;iterate 6 refine gn ?_
      refine pf ?_;refine mq ?_;iterate 3 refine gn ?_
      refine pf ?_;refine mq ?_;iterate 3 refine gn ?_
      refine pf ?_;refine aq (nl ?_);exact jz ((),false) h []
    .replace h:=cJ (sB hb) h;iterate 2 refine gn ?_
     refine pf ?_;refine mq ?_;iterate 2 refine gn ?_
     refine pf ?_;refine mq ?_;iterate 2 refine gn ?_
     refine pf ?_;refine mq ?_;iterate 3 refine gn ?_
     refine pf ?_;refine mq ?_;iterate 2 refine gn ?_
     refine pf ?_;refine mq ?_;iterate 2 refine gn ?_
     refine pf ?_;refine mq ?_;iterate 8 refine gn ?_
     refine pf ?_;refine mq ?_;iterate 6 refine gn ?_
     refine pf ?_;refine mq ?_;iterate 3 refine gn ?_
     refine pf ?_;refine mq ?_;iterate 3 refine gn ?_
     refine pf ?_;refine aq (nl ?_);exact jz ((),false) h []
   .replace h:=cJ (sB hb) h;iterate 2 refine gn ?_
    refine pf ?_;refine mq ?_;iterate 2 refine gn ?_
    refine pf ?_;refine mq ?_;iterate 2 refine gn ?_
    refine pf ?_;refine mq ?_;iterate 2 refine gn ?_
    refine pf ?_;refine mq ?_;iterate 3 refine gn ?_
    refine pf ?_;refine mq ?_;iterate 2 refine gn ?_
    refine pf ?_;refine mq ?_;iterate 2 refine gn ?_
    refine pf ?_;refine mq ?_;iterate 8 refine gn ?_
    refine pf ?_;refine mq ?_;iterate 6 refine gn ?_
    refine pf ?_;refine mq ?_;iterate 3 refine gn ?_
    refine pf ?_;refine mq ?_;iterate 3 refine gn ?_
    refine pf ?_;refine aq (nl ?_);exact jz ((),false) h []
  .replace h:=cJ (sB hb) h;iterate 2 refine gn ?_
   refine pf ?_;refine mq ?_;iterate 2 refine gn ?_
   refine pf ?_;refine mq ?_;iterate 2 refine gn ?_
   refine pf ?_;refine mq ?_;iterate 2 refine gn ?_
   refine pf ?_;refine mq ?_;iterate 2 refine gn ?_
   refine pf ?_;refine mq ?_;iterate 3 refine gn ?_
   refine pf ?_;refine mq ?_;iterate 2 refine gn ?_
   refine pf ?_;refine mq ?_;iterate 2 refine gn ?_
   refine pf ?_;refine mq ?_;iterate 8 refine gn ?_
   refine pf ?_;refine mq ?_;iterate 6 refine gn ?_
   refine pf ?_;refine mq ?_;iterate 3 refine gn ?_
   refine pf ?_;refine mq ?_;iterate 3 refine gn ?_
   refine pf ?_;refine aq (nl ?_);exact jz ((),false) h []
 .
  refine ax ?_;cases h;exact ra
def cT(k:Nat)(r6:(List (List Int))×Int)(e:Int):Nat->(Bool×Int)->Option Bool
 |0,_=>none
 |n+1,c=>
  if c.2 < (r6.1.length:Int) then(((if c.1=true then(some true) else((aJ r6.1 c.2).bind λl=>
  (aJ l e).bind λj=>
  some (decide (0≤j)))):Option (Bool)).bind λr=>
  (ck (c.2+1)).bind λh=>
  cT k r6 e n (r,h)) else(some c.1)
def bQ(k:Nat)(r3:ae×bT)(r6:(List (List Int))×Int)(j:(List Int)×Int)(h:Int×Int):Nat->(Int×Bool×Int)->Option (Except Bool (Int×Bool))
 |0,_=>none
 |n+1,c=>
  ((if c.2.2 < (r3.1.2.2.2.2.1.length:Int) then(some (!c.2.1)) else(some false)):Option (Bool)).bind λTV=>
  if TV=true then(bE (α:=Int×Bool) ((((aJ j.1 h.2).bind λqt=>
  if qt < 0 then(some true) else((aJ j.1 h.2).bind λmw=>
  some (decide (r3.1.1≤mw)))):Option (Bool)).bind λzz=>
  if zz=true then(some (.error false)) else((aJ j.1 h.2).bind λmc=>
  (kO k (r3.1.1,r3.1.2.1,r3.1.2.2.1,r3.1.2.2.2.1,r3.1.2.2.2.2.1,[]) c.2.2 mc).bind λr=>
  ((if r.2=true then((ck (h.2 - 1)).bind λY=>
  (aJ j.1 Y).bind λX=>
  (rZ k r.1 X).bind λTW=>
  if 0≤TW then((aJ r6.1 c.2.2).bind λU=>
  (ck (h.2 - 1)).bind λQ=>
  (aJ j.1 Q).bind λO=>
  (aJ U O).bind λM=>
  if r3.1.2.1≤M then((aJ r6.1 c.2.2).bind λJ=>
  (aJ j.1 h.2).bind λI=>
  (aJ J I).bind λF=>
  if F < 0 then((ck (c.2.2+1)).bind λE=>
  (aJ r6.1 E).bind λD=>
  (aJ j.1 h.2).bind λy=>
  (aJ D y).bind λx=>
  some (decide (x=0))) else(some false)) else(some false)) else(some false)) else(some false)):Option (Bool)).bind λZ=>
  if Z=true then((ck (c.2.2+1)).bind λu=>
  some (.ok (u,true))) else(some (.ok (c.1,c.2.1))))) (λe=>some (.error e)) λl=>
  (ck (c.2.2+1)).bind λs=>
  bQ k r3 r6 j h n (l.1,l.2,s)) else(some (.ok (c.1,c.2.1)))
def cS(k:Nat)(r3:ae×bT)(r6:(List (List Int))×Int)(h:(List Int)×Int):Nat->(Int×Int)->Option (Except Bool Unit)
 |0,_=>none
 |n+1,c=>
  if c.2 < (h.1.length:Int) then(bE (α:=Int) (bE (α:=Int×Bool) (bQ k r3 r6 h c k (c.1,false,c.1)) (λe=>some (.error e)) λj=>
  if¬(j.2=true) then(some (.error false)) else(some (.ok j.1))) (λe=>some (.error e)) λr=>
  (ck (c.2+1)).bind λl=>
  cS k r3 r6 h n (r,l)) else(some (.ok ()))
def dp(k:Nat)(r3:ae×bT)(r5:(List Int)×bT)(r6:(List (List Int))×Int):Nat->Int->Option (Except Bool Unit)
 |0,_=>none
 |n+1,h=>
  if h < r3.1.1 then(bE (α:=Unit) ((kB k (r3.1.1,r3.1.2.1,r3.1.2.2.1,r3.1.2.2.2.1,r3.1.2.2.2.2.1,[]) r5.1 h).bind λc=>
  ((cT k r6 h k (false,0)):Option (Bool)).bind λy=>
  if¬(y=true) then(((if¬(c.2=11) then(some true) else(some (decide (0 < (c.1.length:Int))))):Option (Bool)).bind λx=>
  if x=true then(some (.error false)) else(some (.ok ()))) else(((if¬(c.2=0) then(some true) else(if(c.1.length:Int)=0 then(some true) else(if 20 < (c.1.length:Int) then(some true) else((ck ((c.1.length:Int) - 1)).bind λs=>
  (aJ c.1 s).bind λr=>
  if¬(r=h) then(some true) else((aJ c.1 0).bind λl=>
  (rZ k r5.1 l).bind λD=>
  some (decide (D < 0))))))):Option (Bool)).bind λu=>
  if u=true then(some (.error false)) else(cS k r3 r6 c k (0,1)))) (λe=>some (.error e)) λ_=>
  (ck (h+1)).bind λj=>
  dp k r3 r5 r6 n j) else(some (.ok ()))
def jr(k:Nat)(a0:(List Int)):Option Bool:=
 (lJ k a0).bind λr1=>
 (iq k (r1.1,r1.2.1,r1.2.2) 5 5).bind λr3=>
 (jD k (r3.2.1,r3.2.2.1,r3.2.2.2) r3.1.1).bind λr5=>
 (i9 k (r3.1.1,r3.1.2.1,r3.1.2.2.1,r3.1.2.2.2.1,r3.1.2.2.2.2.1,[]) r5.1).bind λr6=>
 ((if¬(r6.2=0) then(some true) else((mi k (r3.1.1,r3.1.2.1,r3.1.2.2.1,r3.1.2.2.2.1,r3.1.2.2.2.2.1,[]) r6.1).bind λr9=>
 some (!r9))):Option (Bool)).bind λx7=>
 if x7=true then(some false) else(bE (α:=Unit) (dp k r3 r5 r6 k 0) (some) λ_=>
 (qL k).bind λc=>
 some c)
theorem rW(k:Nat)(a0:(List Int))(r:Bool)(h:jr k a0=some r):
 cj (dR Tryz.prog) 6 [.rep Tl a0] [] (λ_:Unit=>(bJ [.eq (.bool r)],[])):=by
 unfold jr at h
 replace h:=bq h
 refine cj.of 211 Tryz.func6 rfl Tryz.ntmps6 rfl λS w0=>?_
 refine sr ?_
 refine cq ?_
 refine nt ?_
 refine sr ?_
 refine mq ?_
 obtain⟨r1,Vb,h⟩:=aa h
 have Vh:=uk k a0 r1 Vb
 refine bg rfl rfl rfl (av [.tmp 19] rfl rfl SJ rfl Vh) ⟨rfl,trivial⟩ λb2=>?_
 refine aq ?_
 refine nt ?_
 refine sr ?_
 refine mq ?_
 obtain⟨r3,Va,h⟩:=aa h
 have Vg:=ul k (r1.1,r1.2.1,r1.2.2) b2 5 5 r3 Va
 refine kc (av [.tmp 21,.const (.int .i64 (5)),.const (.int .i64 (5))] rfl rfl SB rfl Vg) ?_
 refine bg rfl rfl rfl (bI rfl Dq KP) trivial λb4=>?_
 refine aW rfl rfl (aS rfl jP trivial rfl rfl) ⟨rfl,rfl,trivial⟩ ?_
 refine nt ?_
 refine sr ?_
 refine mq ?_
 refine fl gp ?_
 refine lo bV ?_
 obtain⟨r5,U8,h⟩:=aa h
 have Vf:=um k (r3.2.1,r3.2.2.1,r3.2.2.2) b2 r3.1.1 r5 U8
 refine fr 1 ?_
 refine kb (av [.tmp 23,.tmp 25] rfl rfl SA rfl Vf) ?_
 refine aq ?_
 refine nt ?_
 refine sr ?_
 refine fr 1 ?_
 refine lo jP ?_
 refine mq ?_
 obtain⟨r6,U7,h⟩:=aa h
 have Ve:=pm k (r3.1.1,r3.1.2.1,r3.1.2.2.1,r3.1.2.2.2.1,r3.1.2.2.2.2.1,[]) r5.1 r6 U7
 refine jb (bN (N:=[(.tmp 28,.agg (.pair (I r3.1.1) (.pair (I r3.1.2.1) (.pair (I r3.1.2.2.1) (.pair (I r3.1.2.2.2.1) (.pair (.rep (.slice (.slice Tl)) r3.1.2.2.2.2.1) (.eq (.slice none 0 0)))))))),(.tmp 29,.rep Tl r5.1)]) (aY [.tmp 28,.tmp 29] rfl rfl Qh rfl Ve) λ_ _ _ hn=>⟨(aF (t:=au) (x:=(r3.1.1,r3.1.2.1,r3.1.2.2.1,r3.1.2.2.2.1,r3.1.2.2.2.2.1,[])) (.agg (.pair .int (.pair .int (.pair .int (.pair .int (.pair .rep .nil)))))) trivial rfl hn.1),hn.2.1,trivial⟩) ?_
 refine mq ?_
 refine xr ?_
 refine xr ?_
 refine aq ?_
 refine aq ?_
 refine nt ?_
 refine ak ?_
 refine aG (Z:=Unit) (α:=Bool) (λz8 x7=>[(4,Pt b4),(5,.rep Tl r5.1),(6,.rep (.slice Tl) r6.1),(40,.eq (.bool x7))]) (λz8 x7=>[.obj b4 26 (.agg (.pair (I r3.1.1) (.pair (I r3.1.2.1) (.pair (I r3.1.2.2.1) (.pair (I r3.1.2.2.2.1) (.pair (.rep (.slice (.slice Tl)) r3.1.2.2.2.2.1) (.eq (.slice none 0 0))))))))]) h (λK h=>?_) (λz8 x7 h=>?_)
 .
  refine ab (mq ?_);refine jb (eZ rfl) ?_;refine mq ?_;refine cE (s:=35) rfl (λhb=>?_) (λhb=>?_)
  .replace h:=ec (Pj hb) h;iterate 4 refine gn ?_
   refine pt (nl ?_);exact jz ((),true) h [0]
  .replace h:=cJ (GW hb) h;refine oh rfl rfl rfl rfl rfl rfl (ay rfl jP (vk) rfl) ⟨rfl,trivial⟩ ?_;refine gm ?_;obtain⟨r9,U6,h⟩:=aa h;refine gb (bN (N:=[(.tmp 36,.agg (.pair (I r3.1.1) (.pair (I r3.1.2.1) (.pair (I r3.1.2.2.1) (.pair (I r3.1.2.2.2.1) (.pair (.rep (.slice (.slice Tl)) r3.1.2.2.2.2.1) (.eq (.slice none 0 0)))))))),(.tmp 37,.rep (.slice Tl) r6.1)]) (av [.tmp 36,.tmp 37] rfl rfl SH rfl (xo k (r3.1.1,r3.1.2.1,r3.1.2.2.1,r3.1.2.2.2.1,r3.1.2.2.2.2.1,[]) r6.1 r9 U6)) λ_ _ _ hn=>⟨(aF (t:=au) (x:=(r3.1.1,r3.1.2.1,r3.1.2.2.1,r3.1.2.2.2.1,r3.1.2.2.2.2.1,[])) (.agg (.pair .int (.pair .int (.pair .int (.pair .int (.pair .rep .nil)))))) trivial rfl hn.1),hn.2.1,trivial⟩) ?_;refine ga (gU rfl) ?_;refine pf (nl ?_);exact jz ((), !r9) h [0]
 .
  refine cv h (λh=>?_) (λh=>?_)
  .refine sr (cq (nt (rx ?_)));cases h;exact ra
  .refine sk (c7 (Z:=Unit) (α:=Unit) (λUe Uh=>[]) (λUe Uh=>[]) (λe=>e=r) h (λe h=>Option.some.inj h) (λK hR h=>?_) (λUe Uh h=>?_))
   .refine sr (cq (nt (aj ?_)));refine aH (λUd j=>[(4,Pt b4),(5,.rep Tl r5.1),(6,.rep (.slice Tl) r6.1),(8,I j)]) (λUd j=>[.obj b4 26 (.agg (.pair (I r3.1.1) (.pair (I r3.1.2.1) (.pair (I r3.1.2.2.1) (.pair (I r3.1.2.2.2.1) (.pair (.rep (.slice (.slice Tl)) r3.1.2.2.2.2.1) (.eq (.slice none 0 0))))))))]) (dp k r3 r5 r6) k () 0 (λ_=>rfl) h (SE.fin [0] ⟨rfl,rfl,rfl,rfl,trivial⟩ rfl) (λn Ud j h=>?_);unfold dp at h;refine ak (sr (mq ?_));refine fl gp ?_;refine lo bV ?_;refine jb (bA rfl) ?_;refine nt (ci h (λh=>?_) (λh=>?_))
    .refine sk (c7 (Z:=Unit) (α:=Unit) (λUc Ug=>[(4,Pt b4),(5,.rep Tl r5.1),(6,.rep (.slice Tl) r6.1),(8,I j)]) (λUc Ug=>[.obj b4 26 (.agg (.pair (I r3.1.1) (.pair (I r3.1.2.1) (.pair (I r3.1.2.2.1) (.pair (I r3.1.2.2.2.1) (.pair (.rep (.slice (.slice Tl)) r3.1.2.2.2.2.1) (.eq (.slice none 0 0))))))))]) (λe=>e=r) h (λe h=>hR e h) (λK hR h=>?_) (λUc Ug h=>?_))
     .refine aj (sr (lo jP ?_));iterate 2 refine mq ?_
      obtain⟨l,UQ,h⟩:=aa h;refine jc (bN (N:=[(.tmp 48,.agg (.pair (I r3.1.1) (.pair (I r3.1.2.1) (.pair (I r3.1.2.2.1) (.pair (I r3.1.2.2.2.1) (.pair (.rep (.slice (.slice Tl)) r3.1.2.2.2.2.1) (.eq (.slice none 0 0)))))))),(.tmp 49,.rep Tl r5.1),(.tmp 50,I j)]) (aY [.tmp 48,.tmp 49,.tmp 50] rfl rfl Qa rfl (qJ k (r3.1.1,r3.1.2.1,r3.1.2.2.1,r3.1.2.2.2.1,r3.1.2.2.2.2.1,[]) r5.1 j l UQ)) λ_ _ _ hn=>⟨(aF (t:=au) (x:=(r3.1.1,r3.1.2.1,r3.1.2.2.1,r3.1.2.2.2.1,r3.1.2.2.2.2.1,[])) (.agg (.pair .int (.pair .int (.pair .int (.pair .int (.pair .rep .nil)))))) trivial rfl hn.1),hn.2.1,hn.2.2.1,trivial⟩) ?_;refine mq ?_;refine xr ?_;refine xr ?_;refine aq ?_;refine aq (nt (sr ?_));refine cq (nt ?_);refine aG (Z:=Unit) (α:=Bool) (λUb Y=>[(4,Pt b4),(5,.rep Tl r5.1),(6,.rep (.slice Tl) r6.1),(8,I j),(9,.rep Tl l.1),(10,I l.2),(11,.eq (.bool Y))]) (λUb Y=>[.obj b4 26 (.agg (.pair (I r3.1.1) (.pair (I r3.1.2.1) (.pair (I r3.1.2.2.1) (.pair (I r3.1.2.2.2.1) (.pair (.rep (.slice (.slice Tl)) r3.1.2.2.2.2.1) (.eq (.slice none 0 0))))))))]) h (λK h=>?_) (λUb Y h=>?_)
      .refine sr (cq (nt (aj ?_)));refine aH (λUa y=>[(4,Pt b4),(5,.rep Tl r5.1),(6,.rep (.slice Tl) r6.1),(8,I j),(9,.rep Tl l.1),(10,I l.2),(11,.eq (.bool y.1)),(12,I y.2)]) (λUa y=>[.obj b4 26 (.agg (.pair (I r3.1.1) (.pair (I r3.1.2.1) (.pair (I r3.1.2.2.1) (.pair (I r3.1.2.2.2.1) (.pair (.rep (.slice (.slice Tl)) r3.1.2.2.2.2.1) (.eq (.slice none 0 0))))))))]) (cT k r6 j) k () (false,0) (λ_=>rfl) h (SE.fin [0] ⟨rfl,rfl,rfl,rfl,rfl,rfl,rfl,rfl,trivial⟩ rfl) (λn Ua y h=>?_);unfold cT at h;refine ak (sr ?_);iterate 2 refine mq ?_
       refine ol qY ?_;refine jb (bA rfl) ?_;refine nt (ci h (λh=>?_) (λh=>?_))
       .refine sk (aG (Z:=Unit) (α:=Bool) (λT9 J=>[(4,Pt b4),(5,.rep Tl r5.1),(6,.rep (.slice Tl) r6.1),(8,I j),(9,.rep Tl l.1),(10,I l.2),(11,.eq (.bool J)),(12,I y.2)]) (λT9 J=>[.obj b4 26 (.agg (.pair (I r3.1.1) (.pair (I r3.1.2.1) (.pair (I r3.1.2.2.1) (.pair (I r3.1.2.2.2.1) (.pair (.rep (.slice (.slice Tl)) r3.1.2.2.2.2.1) (.eq (.slice none 0 0))))))))]) h (λK h=>?_) (λT9 J h=>?_))
        .refine aj (ab ?_);iterate 2 refine mq ?_
         refine cE (s:=61) rfl (λhb=>?_) (λhb=>?_)
         .replace h:=ec (IS hb) h;iterate 8 refine gn ?_
          refine pt ?_;refine aq (aA (bn ?_));exact jz ((),true) h [0]
         .replace h:=cJ (IT hb) h;refine gm ?_;refine gm ?_;obtain⟨Vw,UL,h⟩:=aa h;refine gb (aI (t:=Tl) rfl qY gJ UL) ?_;refine ga (am (t:=Tl) rfl gJ rfl) ?_;refine gm ?_;obtain⟨U0,UK,h⟩:=aa h;refine gb (aI (t:=Ti) rfl fM bV UK) ?_;refine ga (am (t:=Ti) rfl bV rfl) ?_;refine gb (iC rfl) ?_;refine pf ?_;refine aq (aA (bn ?_));exact jz ((),decide (0≤U0)) h [0]
        .refine ab (mq ?_);obtain⟨UZ,UJ,h⟩:=aa h;refine jb (bo rfl UJ) ?_;refine aq (nl ?_);exact jz ((),(J,UZ)) h [0]
       .refine xa ?_;exact jz ((),y.1) h [0]
      .refine ak (sr (mq ?_));refine ja (gU rfl) ?_;refine nt (cw h (λh=>?_) (λh=>?_))
       .refine ak (aG (Z:=Unit) (α:=Bool) (λT8 X=>[(4,Pt b4),(5,.rep Tl r5.1),(6,.rep (.slice Tl) r6.1),(8,I j),(79,.eq (.bool X))]) (λT8 X=>[.obj b4 26 (.agg (.pair (I r3.1.1) (.pair (I r3.1.2.1) (.pair (I r3.1.2.2.1) (.pair (I r3.1.2.2.2.1) (.pair (.rep (.slice (.slice Tl)) r3.1.2.2.2.2.1) (.eq (.slice none 0 0))))))))]) h (λK h=>?_) (λT8 X h=>?_))
        .refine ab (mq ?_);refine jb (eZ rfl) ?_;refine mq ?_;refine cE (s:=75) rfl (λhb=>?_) (λhb=>?_)
         .replace h:=ec (Pj hb) h;iterate 3 refine gn ?_
          refine pt (nl ?_);exact jz ((),true) h [0]
         .replace h:=cJ (GW hb) h;refine gm ?_;refine ga (pi rfl rfl fM) ?_;refine gb (me rfl) ?_;refine pf (nl ?_);exact jz ((),decide (0 < (l.1.length:Int))) h [0]
        .refine cv h (λh=>?_) (λh=>?_)
         .refine sr (cq (nt (rx (aZ (br (ba (aZ ?_)))))));obtain rfl:=hR _ h;exact ra
         .refine sk (eW (bF (cO (an ?_))));exact jz ((),()) h [0]
       .refine sk (ak (aG (Z:=Unit) (α:=Bool) (λTZ U=>[(4,Pt b4),(5,.rep Tl r5.1),(6,.rep (.slice Tl) r6.1),(8,I j),(9,.rep Tl l.1),(109,.eq (.bool U))]) (λTZ U=>[.obj b4 26 (.agg (.pair (I r3.1.1) (.pair (I r3.1.2.1) (.pair (I r3.1.2.2.1) (.pair (I r3.1.2.2.2.1) (.pair (.rep (.slice (.slice Tl)) r3.1.2.2.2.2.1) (.eq (.slice none 0 0))))))))]) h (λK h=>?_) (λTZ U h=>?_)))
        .refine ab (mq ?_);refine jb (eZ rfl) ?_;refine mq ?_;refine cE (s:=82) rfl (λhb=>?_) (λhb=>?_)
         .replace h:=ec (Pj hb) h;iterate 3 refine gn ?_
          refine pt ?_;refine mq ?_;iterate 3 refine gn ?_
          refine pt ?_;refine mq ?_;iterate 8 refine gn ?_
          refine pt ?_;refine mq ?_;iterate 6 refine gn ?_
          refine pt (nl ?_);exact jz ((),true) h [0]
         .replace h:=cJ (GW hb) h;refine gm ?_;refine ga (pi rfl rfl fM) ?_;refine gb (iD rfl) ?_;refine pf ?_;refine mq ?_;refine cE (s:=87) rfl (λhb=>?_) (λhb=>?_)
          .replace h:=ec (sx hb) h;iterate 3 refine gn ?_
           refine pt ?_;refine mq ?_;iterate 8 refine gn ?_
           refine pt ?_;refine mq ?_;iterate 6 refine gn ?_
           refine pt (nl ?_);exact jz ((),true) h [0]
          .replace h:=cJ (sB hb) h;refine gm ?_;refine ga (pi rfl rfl fM) ?_;refine gb (me rfl) ?_;refine pf ?_;refine mq ?_;refine cE (s:=92) rfl (λhb=>?_) (λhb=>?_)
           .replace h:=ec (sx hb) h;iterate 8 refine gn ?_
            refine pt ?_;refine mq ?_;iterate 6 refine gn ?_
            refine pt (nl ?_);exact jz ((),true) h [0]
           .replace h:=cJ (sB hb) h;refine gm ?_;refine gm ?_;refine ga (pi rfl rfl fM) ?_;obtain⟨Vv,UI,h⟩:=aa h;refine gb (dY rfl UI) ?_;obtain⟨Vu,UH,h⟩:=aa h;refine gb (aI (t:=Ti) rfl fM bV UH) ?_;refine ga (am (t:=Ti) rfl bV rfl) ?_;refine gm ?_;refine gb (eZ rfl) ?_;refine pf ?_;refine mq ?_;refine cE (s:=102) rfl (λhb=>?_) (λhb=>?_)
            .replace h:=ec (Pj hb) h;iterate 6 refine gn ?_
             refine pt (nl ?_);exact jz ((),true) h [0]
            .replace h:=cJ (GW hb) h;refine gm ?_;refine gm ?_;obtain⟨UY,UG,h⟩:=aa h;refine gb (aI (t:=Ti) rfl fM bV UG) ?_;refine ga (am (t:=Ti) rfl bV rfl) ?_;obtain⟨Uj,UP,h⟩:=aa h;refine gb (av [.tmp 103,.tmp 106] rfl rfl Qb rfl (wb k r5.1 UY Uj UP)) ?_;refine gb (bA rfl) ?_;refine pf (nl ?_);exact jz ((),decide (Uj < 0)) h [0]
        .refine cv h (λh=>?_) (λh=>?_)
         .refine sr (cq (nt (rx (br (ba (aZ ?_))))));obtain rfl:=hR _ h;exact ra
         .refine sk (sr (cq (nt (sr ?_))));refine cq (nt (aj ?_));refine aH (λTY u=>[(4,Pt b4),(5,.rep Tl r5.1),(6,.rep (.slice Tl) r6.1),(8,I j),(9,.rep Tl l.1),(13,I u.1),(14,I u.2)]) (λTY u=>[.obj b4 26 (.agg (.pair (I r3.1.1) (.pair (I r3.1.2.1) (.pair (I r3.1.2.2.1) (.pair (I r3.1.2.2.2.1) (.pair (.rep (.slice (.slice Tl)) r3.1.2.2.2.2.1) (.eq (.slice none 0 0))))))))]) (cS k r3 r6 l) k () (0,1) (λ_=>rfl) h (SE.fin [0] ⟨rfl,rfl,rfl,rfl,rfl,rfl,rfl,trivial⟩ rfl) (λn TY u h=>?_);unfold cS at h;refine ak (sr ?_);iterate 2 refine mq ?_
          refine ol fM ?_;refine jb (bA rfl) ?_;refine nt (ci h (λh=>?_) (λh=>?_))
          .refine sk (c7 (Z:=Unit) (α:=Int) (λTX F=>[(4,Pt b4),(5,.rep Tl r5.1),(6,.rep (.slice Tl) r6.1),(8,I j),(9,.rep Tl l.1),(13,I F),(14,I u.2)]) (λTX F=>[.obj b4 26 (.agg (.pair (I r3.1.1) (.pair (I r3.1.2.1) (.pair (I r3.1.2.2.1) (.pair (I r3.1.2.2.2.1) (.pair (.rep (.slice (.slice Tl)) r3.1.2.2.2.2.1) (.eq (.slice none 0 0))))))))]) (λe=>e=r) h (λe h=>hR e h) (λK hR h=>?_) (λTX F h=>?_))
           .refine aj (sr (cq (nt ?_)));refine c7 (Z:=Unit) (α:=Int×Bool) (λTW E=>[(4,Pt b4),(5,.rep Tl r5.1),(6,.rep (.slice Tl) r6.1),(8,I j),(9,.rep Tl l.1),(13,I E.1),(14,I u.2),(15,.eq (.bool E.2))]) (λTW E=>[.obj b4 26 (.agg (.pair (I r3.1.1) (.pair (I r3.1.2.1) (.pair (I r3.1.2.2.1) (.pair (I r3.1.2.2.2.1) (.pair (.rep (.slice (.slice Tl)) r3.1.2.2.2.2.1) (.eq (.slice none 0 0))))))))]) (λe=>e=r) h (λe h=>hR e h) (λK hR h=>?_) (λTW E h=>?_)
            .refine sr (mq ?_);refine aq (nt (aj ?_));refine aH (λTV c=>[(4,Pt b4),(5,.rep Tl r5.1),(6,.rep (.slice Tl) r6.1),(8,I j),(9,.rep Tl l.1),(13,I c.1),(14,I u.2),(15,.eq (.bool c.2.1)),(16,I c.2.2)]) (λTV c=>[.obj b4 26 (.agg (.pair (I r3.1.1) (.pair (I r3.1.2.1) (.pair (I r3.1.2.2.1) (.pair (I r3.1.2.2.2.1) (.pair (.rep (.slice (.slice Tl)) r3.1.2.2.2.2.1) (.eq (.slice none 0 0))))))))]) (bQ k r3 r6 l u) k () (u.1,false,u.1) (λ_=>rfl) h (SE.fin [0] ⟨rfl,rfl,rfl,rfl,rfl,rfl,rfl,rfl,rfl,trivial⟩ rfl) (λn TV c h=>?_);unfold bQ at h;refine ak (aG (Z:=Unit) (α:=Bool) (λzz Q=>[(4,Pt b4),(5,.rep Tl r5.1),(6,.rep (.slice Tl) r6.1),(8,I j),(9,.rep Tl l.1),(13,I c.1),(14,I u.2),(15,.eq (.bool c.2.1)),(16,I c.2.2),(125,.eq (.bool Q))]) (λzz Q=>[.obj b4 26 (.agg (.pair (I r3.1.1) (.pair (I r3.1.2.1) (.pair (I r3.1.2.2.1) (.pair (I r3.1.2.2.2.1) (.pair (.rep (.slice (.slice Tl)) r3.1.2.2.2.2.1) (.eq (.slice none 0 0))))))))]) h (λK h=>?_) (λzz Q h=>?_))
             .refine ab (mq ?_);refine fl dU ?_;refine lo kh ?_;refine ol yi ?_;refine jb (bA rfl) ?_;refine mq ?_;refine cE (s:=122) rfl (λhb=>?_) (λhb=>?_)
              .replace h:=ec (sx hb) h;refine gm ?_;refine ga (gU rfl) ?_;refine pt (nl ?_);exact jz ((), !c.2.1) h [0]
              .replace h:=cJ (sB hb) h;iterate 2 refine gn ?_
               refine pf (nl ?_);exact jz ((),false) h [0]
             .refine cv h (λh=>?_) (λh=>?_)
              .refine sk (c7 (Z:=Unit) (α:=Int×Bool) (λqt D=>[(4,Pt b4),(5,.rep Tl r5.1),(6,.rep (.slice Tl) r6.1),(8,I j),(9,.rep Tl l.1),(13,I D.1),(14,I u.2),(15,.eq (.bool D.2)),(16,I c.2.2)]) (λqt D=>[.obj b4 26 (.agg (.pair (I r3.1.1) (.pair (I r3.1.2.1) (.pair (I r3.1.2.2.1) (.pair (I r3.1.2.2.2.1) (.pair (.rep (.slice (.slice Tl)) r3.1.2.2.2.2.1) (.eq (.slice none 0 0))))))))]) (λe=>e=r) h (λe h=>hR e h) (λK hR h=>?_) (λqt D h=>?_))
               .refine aj (ak (aG (Z:=Unit) (α:=Bool) (λmw O=>[(4,Pt b4),(5,.rep Tl r5.1),(6,.rep (.slice Tl) r6.1),(8,I j),(9,.rep Tl l.1),(13,I c.1),(14,I u.2),(15,.eq (.bool c.2.1)),(16,I c.2.2),(141,.eq (.bool O))]) (λmw O=>[.obj b4 26 (.agg (.pair (I r3.1.1) (.pair (I r3.1.2.1) (.pair (I r3.1.2.2.1) (.pair (I r3.1.2.2.2.1) (.pair (.rep (.slice (.slice Tl)) r3.1.2.2.2.2.1) (.eq (.slice none 0 0))))))))]) h (λK h=>?_) (λmw O h=>?_)))
                .refine cP ?_;refine dm ?_;refine dm ?_;obtain⟨Vt,UF,h⟩:=aa h;refine db (aI (t:=Ti) rfl fM bV UF) ?_;refine da (am (t:=Ti) rfl bV rfl) ?_;refine db (bA rfl) ?_;refine lR rfl rfl rfl (aQ rfl) ⟨rfl,trivial⟩ (λhb=>?_) (λhb=>?_)
                 .replace h:=ec (sx hb) h;iterate 6 refine dg ?_
                  refine df dN ?_;refine gn ?_;refine pt (nl ?_);exact jz ((),true) h [0]
                 .replace h:=cJ (sB hb) h;refine aC rfl rfl rfl rfl rfl (aQ rfl) ⟨rfl,rfl,trivial⟩ ?_;refine aC rfl rfl rfl rfl rfl (aQ rfl) ⟨rfl,rfl,trivial⟩ ?_;obtain⟨UX,UE,h⟩:=aa h;refine aC rfl rfl rfl rfl rfl (aI (t:=Ti) rfl fM bV UE) ⟨rfl,rfl,rfl,trivial⟩ ?_;refine aC rfl rfl rfl rfl rfl (am (t:=Ti) rfl bV rfl) ⟨rfl,rfl,trivial⟩ ?_;refine aC rfl rfl rfl rfl rfl (aK rfl gp) ⟨rfl,rfl,trivial⟩ ?_;refine iU 0 rfl rfl rfl rfl rfl rfl (ay rfl bV pH rfl) ⟨rfl,rfl,trivial⟩ ?_;refine df dN ?_;refine gb (iC rfl) ?_;refine pf (nl ?_);exact jz ((),decide (r3.1.1≤UX)) h [0]
                .refine cv h (λh=>?_) (λh=>?_)
                 .refine sr (cq (nt (rx (br (ba (aZ (br (ba (br (ba (aZ ?_)))))))))));obtain rfl:=hR _ h;exact ra
                 .refine sk (ak (cP ?_));refine ea 0 (ay rfl jP (vk) rfl) ?_;refine dm ?_;refine dm ?_;refine dm ?_;obtain⟨Uf,UD,h⟩:=aa h;refine db (aI (t:=Ti) rfl fM bV UD) ?_;refine da (am (t:=Ti) rfl bV rfl) ?_;obtain⟨Ui,UO,h⟩:=aa h;refine dc (bN (N:=[(.tmp 143,.agg (.pair (I r3.1.1) (.pair (I r3.1.2.1) (.pair (I r3.1.2.2.1) (.pair (I r3.1.2.2.2.1) (.pair (.rep (.slice (.slice Tl)) r3.1.2.2.2.2.1) (.eq (.slice none 0 0)))))))),(.tmp 144,I c.2.2),(.tmp 148,I Uf)]) (av [.tmp 143,.tmp 144,.tmp 148] rfl rfl Sz rfl (vd k (r3.1.1,r3.1.2.1,r3.1.2.2.1,r3.1.2.2.2.1,r3.1.2.2.2.2.1,[]) c.2.2 Uf Ui UO)) λ_ _ _ hn=>⟨(aF (t:=au) (x:=(r3.1.1,r3.1.2.1,r3.1.2.2.1,r3.1.2.2.2.1,r3.1.2.2.2.2.1,[])) (.agg (.pair .int (.pair .int (.pair .int (.pair .int (.pair .rep .nil)))))) trivial rfl hn.1),hn.2.1,hn.2.2.1,trivial⟩) ?_;refine dm ?_;refine da (i7 rfl rfl) ?_;refine da (i7 rfl rfl) ?_;refine da (nL rfl) ?_;refine df dN ?_;refine aq (nt ?_);refine aG (Z:=Unit) (α:=Bool) (λmc M=>[(4,Pt b4),(5,.rep Tl r5.1),(6,.rep (.slice Tl) r6.1),(8,I j),(9,.rep Tl l.1),(13,I c.1),(14,I u.2),(15,.eq (.bool c.2.1)),(16,I c.2.2),(205,.eq (.bool M))]) (λmc M=>[.obj b4 26 (.agg (.pair (I r3.1.1) (.pair (I r3.1.2.1) (.pair (I r3.1.2.2.1) (.pair (I r3.1.2.2.2.1) (.pair (.rep (.slice (.slice Tl)) r3.1.2.2.2.2.1) (.eq (.slice none 0 0))))))))]) h (λK h=>?_) (λmc M h=>?_)
                  .refine cP ?_;refine dm ?_;refine lR rfl rfl rfl (aQ rfl) ⟨rfl,trivial⟩ (λhb=>?_) (λhb=>?_)
                   .replace h:=ec (IS hb) h;refine aC rfl rfl rfl rfl rfl (aQ rfl) ⟨rfl,rfl,trivial⟩ ?_;refine aC rfl rfl rfl rfl rfl (aQ rfl) ⟨rfl,rfl,trivial⟩ ?_;refine aC rfl rfl rfl rfl rfl (aQ rfl) ⟨rfl,rfl,trivial⟩ ?_;obtain⟨Vs,UC,h⟩:=aa h;refine aC rfl rfl rfl rfl rfl (dY rfl UC) ⟨rfl,rfl,rfl,trivial⟩ ?_;obtain⟨UW,UB,h⟩:=aa h;refine aC rfl rfl rfl rfl rfl (aI (t:=Ti) rfl fM bV UB) ⟨rfl,rfl,rfl,trivial⟩ ?_;refine aC rfl rfl rfl rfl rfl (am (t:=Ti) rfl bV rfl) ⟨rfl,rfl,trivial⟩ ?_;obtain⟨U2,UN,h⟩:=aa h;refine aC rfl rfl rfl rfl rfl (av [.tmp 154,.tmp 159] rfl rfl Qb rfl (wb k Ui.1 UW U2 UN)) ⟨rfl,rfl,rfl,trivial⟩ ?_;refine aC rfl rfl rfl rfl rfl (iC rfl) ⟨rfl,rfl,rfl,trivial⟩ ?_;refine db (qz rfl) ?_;refine lR rfl rfl rfl (aQ rfl) ⟨rfl,trivial⟩ (λhb=>?_) (λhb=>?_)
                    .replace h:=ec (sx hb) h;refine aC rfl rfl rfl rfl rfl (aQ rfl) ⟨rfl,rfl,trivial⟩ ?_;refine aC rfl rfl rfl rfl rfl (aQ rfl) ⟨rfl,rfl,trivial⟩ ?_;obtain⟨Vr,UA,h⟩:=aa h;refine aC rfl rfl rfl rfl rfl (aI (t:=Tl) rfl qY gJ UA) ⟨rfl,rfl,rfl,trivial⟩ ?_;refine aC rfl rfl rfl rfl rfl (am (t:=Tl) rfl gJ rfl) ⟨rfl,rfl,trivial⟩ ?_;refine aC rfl rfl rfl rfl rfl (aQ rfl) ⟨rfl,rfl,trivial⟩ ?_;refine aC rfl rfl rfl rfl rfl (aQ rfl) ⟨rfl,rfl,trivial⟩ ?_;obtain⟨Vq,Uz,h⟩:=aa h;refine aC rfl rfl rfl rfl rfl (dY rfl Uz) ⟨rfl,rfl,rfl,trivial⟩ ?_;obtain⟨Vp,Uy,h⟩:=aa h;refine aC rfl rfl rfl rfl rfl (aI (t:=Ti) rfl fM bV Uy) ⟨rfl,rfl,rfl,trivial⟩ ?_;refine aC rfl rfl rfl rfl rfl (am (t:=Ti) rfl bV rfl) ⟨rfl,rfl,trivial⟩ ?_;obtain⟨Vo,Ux,h⟩:=aa h;refine aC rfl rfl rfl rfl rfl (aI (t:=Ti) rfl fM bV Ux) ⟨rfl,rfl,rfl,trivial⟩ ?_;refine aC rfl rfl rfl rfl rfl (am (t:=Ti) rfl bV rfl) ⟨rfl,rfl,trivial⟩ ?_;refine aC rfl rfl rfl rfl rfl (aK rfl xz) ⟨rfl,rfl,trivial⟩ ?_;refine iU 0 rfl rfl rfl rfl rfl rfl (ay rfl bV pH rfl) ⟨rfl,rfl,trivial⟩ ?_;refine aC rfl rfl rfl rfl rfl (iC rfl) ⟨rfl,rfl,rfl,trivial⟩ ?_;refine db (qz rfl) ?_;refine lR rfl rfl rfl (aQ rfl) ⟨rfl,trivial⟩ (λhb=>?_) (λhb=>?_)
                     .replace h:=ec (sx hb) h;refine aC rfl rfl rfl rfl rfl (aQ rfl) ⟨rfl,rfl,trivial⟩ ?_;refine aC rfl rfl rfl rfl rfl (aQ rfl) ⟨rfl,rfl,trivial⟩ ?_;obtain⟨Vn,Uw,h⟩:=aa h;refine aC rfl rfl rfl rfl rfl (aI (t:=Tl) rfl qY gJ Uw) ⟨rfl,rfl,rfl,trivial⟩ ?_;refine aC rfl rfl rfl rfl rfl (am (t:=Tl) rfl gJ rfl) ⟨rfl,rfl,trivial⟩ ?_;refine aC rfl rfl rfl rfl rfl (aQ rfl) ⟨rfl,rfl,trivial⟩ ?_;refine aC rfl rfl rfl rfl rfl (aQ rfl) ⟨rfl,rfl,trivial⟩ ?_;obtain⟨Vm,Uu,h⟩:=aa h;refine aC rfl rfl rfl rfl rfl (aI (t:=Ti) rfl fM bV Uu) ⟨rfl,rfl,rfl,trivial⟩ ?_;refine aC rfl rfl rfl rfl rfl (am (t:=Ti) rfl bV rfl) ⟨rfl,rfl,trivial⟩ ?_;obtain⟨Vl,Ut,h⟩:=aa h;refine aC rfl rfl rfl rfl rfl (aI (t:=Ti) rfl fM bV Ut) ⟨rfl,rfl,rfl,trivial⟩ ?_;refine aC rfl rfl rfl rfl rfl (am (t:=Ti) rfl bV rfl) ⟨rfl,rfl,trivial⟩ ?_;refine aC rfl rfl rfl rfl rfl (bA rfl) ⟨rfl,rfl,rfl,trivial⟩ ?_;refine db (qz rfl) ?_;refine lR rfl rfl rfl (aQ rfl) ⟨rfl,trivial⟩ (λhb=>?_) (λhb=>?_)
                      .replace h:=ec (sx hb) h;refine aC rfl rfl rfl rfl rfl (aQ rfl) ⟨rfl,rfl,trivial⟩ ?_;refine aC rfl rfl rfl rfl rfl (aQ rfl) ⟨rfl,rfl,trivial⟩ ?_;obtain⟨Vk,Us,h⟩:=aa h;refine aC rfl rfl rfl rfl rfl (bo rfl Us) ⟨rfl,rfl,rfl,trivial⟩ ?_;obtain⟨Vj,Ur,h⟩:=aa h;refine aC rfl rfl rfl rfl rfl (aI (t:=Tl) rfl qY gJ Ur) ⟨rfl,rfl,rfl,trivial⟩ ?_;refine aC rfl rfl rfl rfl rfl (am (t:=Tl) rfl gJ rfl) ⟨rfl,rfl,trivial⟩ ?_;refine aC rfl rfl rfl rfl rfl (aQ rfl) ⟨rfl,rfl,trivial⟩ ?_;refine aC rfl rfl rfl rfl rfl (aQ rfl) ⟨rfl,rfl,trivial⟩ ?_;obtain⟨Vi,Up,h⟩:=aa h;refine aC rfl rfl rfl rfl rfl (aI (t:=Ti) rfl fM bV Up) ⟨rfl,rfl,rfl,trivial⟩ ?_;refine aC rfl rfl rfl rfl rfl (am (t:=Ti) rfl bV rfl) ⟨rfl,rfl,trivial⟩ ?_;refine df dN ?_;obtain⟨UV,Uo,h⟩:=aa h;refine gb (aI (t:=Ti) rfl fM bV Uo) ?_;refine ga (am (t:=Ti) rfl bV rfl) ?_;refine gb (iD rfl) ?_;refine pt (nl ?_);exact jz ((),decide (UV=0)) h [0]
                      .replace h:=cJ (sB hb) h;iterate 9 refine dg ?_
                       refine df dN ?_;iterate 3 refine gn ?_
                       refine pf (nl ?_);exact jz ((),false) h [0]
                     .replace h:=cJ (sB hb) h;iterate 11 refine dg ?_
                      refine db (kQ rfl) ?_;refine dm ?_;iterate 9 refine dg ?_
                      refine df dN ?_;iterate 3 refine gn ?_
                      refine pf (nl ?_);exact jz ((),false) h [0]
                    .replace h:=cJ (sB hb) h;iterate 14 refine dg ?_
                     refine db (kQ rfl) ?_;refine dm ?_;iterate 11 refine dg ?_
                     refine db (kQ rfl) ?_;refine dm ?_;iterate 9 refine dg ?_
                     refine df dN ?_;iterate 3 refine gn ?_
                     refine pf (nl ?_);exact jz ((),false) h [0]
                   .replace h:=cJ (IT hb) h;iterate 8 refine dg ?_
                    refine db (kQ rfl) ?_;refine dm ?_;iterate 14 refine dg ?_
                    refine db (kQ rfl) ?_;refine dm ?_;iterate 11 refine dg ?_
                    refine db (kQ rfl) ?_;refine dm ?_;iterate 9 refine dg ?_
                    refine df dN ?_;iterate 3 refine gn ?_
                    refine pf (nl ?_);exact jz ((),false) h [0]
                  .refine cv h (λh=>?_) (λh=>?_)
                   .refine ab (mq ?_);obtain⟨UU,Un,h⟩:=aa h;refine jb (bo rfl Un) ?_;refine cq ?_;refine aq (aA (bn ?_));exact jz ((),(UU,true)) h [0]
                   .refine bf (bn ?_);exact jz ((),(c.1,c.2.1)) h [0]
               .refine ab (mq ?_);obtain⟨UT,Um,h⟩:=aa h;refine jb (bo rfl Um) ?_;refine aq (nl ?_);exact jz ((),(D.1,D.2,UT)) h [0]
              .refine xa ?_;exact jz ((),(c.1,c.2.1)) h [0]
            .refine sr (mq ?_);refine ja (gU rfl) ?_;refine nt (cw h (λh=>?_) (λh=>?_))
             .refine sr (cq (nt (ax (br (ba (br (ba (aZ ?_))))))));obtain rfl:=hR _ h;exact ra
             .refine bf (bn ?_);exact jz ((),E.1) h [0]
           .refine ab (mq ?_);obtain⟨US,Ul,h⟩:=aa h;refine jb (bo rfl Ul) ?_;refine aq (nl ?_);exact jz ((),(F,US)) h [0]
          .refine eW (bF (bF (cO (bn ?_))));exact jz ((),()) h [0]
     .refine ab (mq ?_);obtain⟨UR,Uk,h⟩:=aa h;refine jb (bo rfl Uk) ?_;refine aq (nl ?_);exact jz ((),UR) h [0]
    .refine xa ?_;exact jz ((),()) h []
   .refine sr ?_;obtain⟨U1,UM,h⟩:=aa h;refine bZ rfl (aY [] rfl rfl SD rfl (zf k U1 UM)) trivial ?_;refine aq (nt (ax ?_));cases h;exact ra
