import Derived.Test.YtddkbkkogpolaaaGreatVGB11
open Nat
open List hiding mem_of_getElem?
open Array hiding mem_of_getElem? mk
set_option linter.unusedSimpArgs false
set_option linter.unusedVariables false
set_option maxRecDepth 4000
set_option maxHeartbeats 1000000
namespace Go.Proofs.YtddkbkkogpolaaaGreat
open K Go Go.Proofs
def fG(k:Nat)(r4:(List Int)×bW):Nat->((List Int)×Int×Int×Int×(List (List Int)))->Option ((List Int)×Int×Int×(List (List Int)))
 |0,_=>none
 |n+1,y7=>
  if y7.2.2.2.1 < (r4.1.length:Int) then((((fx k (y7.1,y7.2.1,y7.2.2.1) 5).bind λc=>
  if c.1=true then(some (c.2.1,c.2.2.1,c.2.2.2,y7.2.2.2.2)) else((ck ((y7.2.2.2.2.length:Int) - 1)).bind λr=>
  (cE k (c.2.1,c.2.2.1,c.2.2.2) r).bind λe=>
  (aR y7.2.2.2.2 e.1).bind λj=>
  (aR r4.1 y7.2.2.2.1).bind λh=>
  (cM (bQ (length j+length [h]))).bind λ_=>
  some (e.2.1,e.2.2.1,e.2.2.2,List.set y7.2.2.2.2 (Int.toNat e.1) (j++[h])))):Option ((List Int)×Int×Int×(List (List Int)))).bind λx9=>
  (ck (y7.2.2.2.1+1)).bind λl=>
  fG k r4 n (x9.1,x9.2.1,x9.2.2.1,l,x9.2.2.2)) else(some (y7.1,y7.2.1,y7.2.2.1,y7.2.2.2.2))
def j9(k:Nat)(a0:bW)(a1:Int):Option ((List (List Int))×bW):=
 (fQ k (a0.1,a0.2.1,a0.2.2) 1 3).bind λr1=>
 (cM (0≤r1.1/\bQ (Int.toNat r1.1))).bind λ_=>
 (gY k (r1.2.1,r1.2.2.1,r1.2.2.2) a1).bind λr4=>
 ((fG k r4 k (r4.2.1,r4.2.2.1,r4.2.2.2,0,List.replicate (Int.toNat r1.1) ([]:(List Int)))):Option ((List Int)×Int×Int×(List (List Int)))).bind λx5=>
 some (x5.2.2.2,(x5.1,x5.2.1,x5.2.2.1))
theorem uR(k:Nat)(a0:bW)(c:Nat)(a1:Int)(r:(List (List Int))×bW)(h:j9 k a0 a1=some r):
 dy Tryz.prog 59 [Pt c,I a1] [.obj c 71 (.agg (.pair (.rep Tl a0.1) (.pair (I a0.2.1) (.eq (.int .u64 a0.2.2)))))] (λ_:Unit=>(bD [.rep (.slice Tl) r.1],[.obj c 71 (.agg (.pair (.rep Tl r.2.1) (.pair (I r.2.2.1) (.eq (.int .u64 r.2.2.2)))))])):=by
 unfold j9 at h
 replace h:=be h
 refine dy.of 42 Tryz.func59 rfl Tryz.ntmps59 rfl λS w0=>?_
 refine sr ?_
 refine cq ?_
 refine nt ?_
 refine sr ?_
 refine mq ?_
 obtain⟨r1,Wg,h⟩:=aa h
 have Wi:=jq k (a0.1,a0.2.1,a0.2.2) c 1 3 r1 Wg
 refine kc (ay [.tmp 9,.const (.int .i64 (1)),.const (.int .i64 (3))] rfl rfl MU rfl Wi) ?_
 obtain⟨u2,U,h⟩:=aa h
 refine aS rfl rfl rfl (PI (t:=.val) (d:=.slice none 0 0) rfl l7 QR (am U).1 (am U).2) ⟨rfl,rfl,trivial⟩ λv3=>?_
 refine d4 (JL (F:=[.obj c 71 (.agg (.pair (.rep Tl r1.2.1) (.pair (I r1.2.2.1) (.eq (.int .u64 r1.2.2.2)))))])) ?_
 refine aq ?_
 refine nt ?_
 refine sr ?_
 iterate 2 refine mq ?_
 obtain⟨r4,We,h⟩:=aa h
 have Wh:=rQ k (r1.2.1,r1.2.2.1,r1.2.2.2) c a1 r4 We
 refine kb (ay [.tmp 12,.tmp 13] rfl rfl UN rfl Wh) ?_
 refine aq ?_
 refine nt ?_
 refine aJ (Z:=(Value×(Nat->Value))) (α:=(List Int)×Int×Int×(List (List Int))) (λz6 x5=>[(5,.eq z6.1)]) (λz6 x5=>[.obj c 71 (.agg (.pair (.rep Tl x5.1) (.pair (I x5.2.1) (.eq (.int .u64 x5.2.2.1)))))]++xT 22 z6 x5.2.2.2) h (λK h=>?_) (λz6 x5 h=>?_)
 .
  refine sr (cq (nt (ai ?_)));refine aG (Z:=(Value×(Nat->Value))) (α:=(List Int)×Int×Int×Int×(List (List Int))) (λz8 y7=>[(0,Pt c),(5,.eq z8.1),(6,.rep Tl r4.1),(7,I y7.2.2.2.1)]) (λz8 y7=>[.obj c 71 (.agg (.pair (.rep Tl y7.1) (.pair (I y7.2.1) (.eq (.int .u64 y7.2.2.1)))))]++xT 22 z8 y7.2.2.2.2) (fG k r4) k (v3,λ_=>.slice none 0 0) (r4.2.1,r4.2.2.1,r4.2.2.2,0,List.replicate (Int.toNat r1.1) ([]:(List Int))) (λ_=>rfl) h (gf [.obj c 71 (.agg (.pair (.rep Tl r4.2.1) (.pair (I r4.2.2.1) (.eq (.int .u64 r4.2.2.2)))))] (xT 22 (v3,λ_=>.slice none 0 0) (List.replicate (Int.toNat r1.1) ([]:(List Int)))) [0] ⟨rfl,rfl,rfl,rfl,trivial⟩ rfl) (λn z8 y7 h=>?_);unfold fG at h;refine aj (sr ?_);iterate 2 refine mq ?_
  refine ol g7 ?_;refine jb (bA rfl) ?_;refine nt (ci h (λh=>?_) (λh=>?_))
  .refine sk (aJ (Z:=(Value×(Nat->Value))) (α:=(List Int)×Int×Int×(List (List Int))) (λy x9=>[(0,Pt c),(5,.eq y.1),(6,.rep Tl r4.1),(7,I y7.2.2.2.1)]) (λy x9=>[.obj c 71 (.agg (.pair (.rep Tl x9.1) (.pair (I x9.2.1) (.eq (.int .u64 x9.2.2.1)))))]++xT 22 y x9.2.2.2) h (λK h=>?_) (λy x9 h=>?_))
   .refine ai (aj (sr (mq ?_)));obtain⟨j,gw,h⟩:=aa h;refine kb (ay [.tmp 21,.const (.int .i64 (5))] rfl rfl P6 rfl (jF k (y7.1,y7.2.1,y7.2.2.1) c 5 j gw)) ?_;refine nt (cv h (λh=>?_) (λh=>?_))
    .refine fD (bO (c7 (ao ?_)));exact lT (z8,(j.2.1,j.2.2.1,j.2.2.2,y7.2.2.2.2)) h (gf [.obj c 71 (.agg (.pair (.rep Tl j.2.1) (.pair (I j.2.2.1) (.eq (.int .u64 j.2.2.2)))))] (xT 22 z8 y7.2.2.2.2) [0] ⟨rfl,rfl,rfl,rfl,trivial⟩ rfl)
    .refine sk (sr ?_);iterate 2 refine mq ?_
     refine JX (pre:=[.obj c 71 (.agg (.pair (.rep Tl j.2.1) (.pair (I j.2.2.1) (.eq (.int .u64 j.2.2.2)))))]) rfl rfl rfl rfl rfl oq ⟨rfl,trivial⟩ ?_;obtain⟨mw,Q,h⟩:=aa h;refine jb (dM rfl Q) ?_;obtain⟨e,Y,h⟩:=aa h;refine kb (ay [.tmp 23,.tmp 26] rfl rfl wj rfl (cN k (j.2.1,j.2.2.1,j.2.2.2) c mw e Y)) ?_;refine aq (nt ?_);obtain⟨x,s,h⟩:=aa h;refine ik (Ge (pre:=[.obj c 71 (.agg (.pair (.rep Tl e.2.1) (.pair (I e.2.2.1) (.eq (.int .u64 e.2.2.2)))))]) (gJ s).2) ?_;obtain⟨u,O,h⟩:=aa h;obtain⟨u16,X,h⟩:=aa h;refine J5 (Δ:=[.sl (z8.2 (Int.toNat e.1)) 3 Ti x,.sl z8.1 22 .val (gP z8.2 0 y7.2.2.2.2),.obj c 71 (.agg (.pair (.rep Tl e.2.1) (.pair (I e.2.2.1) (.eq (.int .u64 e.2.2.2)))))]) (F:=(fN z8.2 0 y7.2.2.2.2).eraseIdx (Int.toNat e.1)) (Z:=Value) (λi=>[(0,Pt c),(5,.eq z8.1),(6,.rep Tl r4.1),(7,I y7.2.2.2.1)]) (λi=>[.sl z8.1 22 .val (List.set (gP z8.2 0 y7.2.2.2.2) (Int.toNat e.1) i),.sl i 3 Ti (x++[u]),.obj c 71 (.agg (.pair (.rep Tl e.2.1) (.pair (I e.2.2.1) (.eq (.int .u64 e.2.2.2)))))]) (λS w=>?_) (λl=>?_)
     .refine nu ?_;refine bb rfl rfl rfl (aV rfl) ⟨rfl,trivial⟩ ?_;refine bb rfl rfl rfl (aV rfl) ⟨rfl,trivial⟩ ?_;refine bb rfl rfl rfl (aV rfl) ⟨rfl,trivial⟩ ?_;refine bb rfl rfl rfl (aV rfl) ⟨rfl,trivial⟩ ?_;refine eR 1 rfl rfl rfl rfl (bB (t:=.val) rfl oq eo (fC s)) ⟨rfl,rfl,trivial⟩ ?_;refine eR 1 rfl rfl rfl rfl (eg (i:=Int.toNat e.1) (off:=0) rfl eo (λ_=>rfl) rfl (dR (fC s)).2.2 rfl) ⟨rfl,trivial⟩ ?_;refine bb rfl rfl rfl (aV rfl) ⟨rfl,trivial⟩ ?_;refine bb rfl rfl rfl (aV rfl) ⟨rfl,trivial⟩ ?_;refine bb rfl rfl rfl (aW (t:=Ti) rfl g7 cF O) ⟨rfl,rfl,trivial⟩ ?_;refine bb rfl rfl rfl (av (t:=Ti) rfl cF rfl) ⟨rfl,trivial⟩ ?_;refine bb rfl rfl rfl (bj (t:=Ti) [(.tmp 37,_)] [u] rfl rfl dL (.cons rfl .int .nil) rfl rfl) ⟨rfl,trivial⟩ ?_;refine A8 0 rfl (λv=>[.sl v 3 Ti (x++[u])]) (λ_=>rfl) rfl rfl rfl (cg rfl rfl dL (am X)) ⟨rfl,rfl,trivial⟩ ?_;refine qX 12 [true,true,true,true,true,true,true,true,true,true,true,true] [40] [] [] rfl (by kernel_rfl) (by kernel_rfl) (by kernel_rfl) dz (λvs hv hB=>?_);obtain⟨w0,WA,rfl,Wc⟩:=an hv;obtain⟨w1,Wz,rfl,Wb⟩:=an Wc;obtain⟨w2,Wy,rfl,Wa⟩:=an Wb;obtain⟨w3,Wx,rfl,V9⟩:=an Wa;obtain⟨w4,Wv,rfl,V8⟩:=an V9;obtain⟨w5,Wu,rfl,zM⟩:=an V8;obtain⟨w6,Wt,rfl,zz⟩:=an zM;obtain⟨w7,Ws,rfl,qt⟩:=an zz;obtain⟨w8,Wq,rfl,pq⟩:=an qt;obtain⟨w9,Wn,rfl,J⟩:=an pq;obtain⟨Wp,Wm,rfl,E⟩:=an J;obtain⟨l,Wj,rfl,D⟩:=an E;obtain rfl:=nK D;refine⟨[0,1,2],[.sl z8.1 22 .val (gP z8.2 0 y7.2.2.2.2),.obj c 71 (.agg (.pair (.rep Tl e.2.1) (.pair (I e.2.2.1) (.eq (.int .u64 e.2.2.2))))),.sl l 3 Ti (x++[u])],by kernel_rfl,by decide,?_⟩;refine tq rfl rfl rfl rfl (bB (t:=.val) rfl oq eo (fC s)) ⟨rfl,rfl,trivial⟩ (by kernel_rfl) ?_;refine sa 2 rfl ?_;refine Qz λo18=>?_;refine sa 1 rfl ?_;refine pg rfl rfl (eX (i:=Int.toNat e.1) rfl eo rfl (nM (fC s)) rfl (.val o18) o18) ⟨rfl,rfl,trivial⟩ (by kernel_rfl) ?_;refine vv ?_;refine bM (SE.fin (Γ':=[(0,Pt c),(5,.eq z8.1),(6,.rep Tl r4.1),(7,I y7.2.2.2.1)]) (Δ':=[.sl z8.1 22 .val (List.set (gP z8.2 0 y7.2.2.2.2) (Int.toNat e.1) l),.sl l 3 Ti (x++[u]),.obj c 71 (.agg (.pair (.rep Tl e.2.1) (.pair (I e.2.2.1) (.eq (.int .u64 e.2.2.2)))))]) [0,1,2] ⟨rfl,rfl,rfl,rfl,trivial⟩ rfl) ?_;exact λa w st=>⟨rfl,(l),(SE.fin (Γ':=[(0,Pt c),(5,.eq z8.1),(6,.rep Tl r4.1),(7,I y7.2.2.2.1)]) (Δ':=[.sl z8.1 22 .val (List.set (gP z8.2 0 y7.2.2.2.2) (Int.toNat e.1) l),.sl l 3 Ti (x++[u]),.obj c 71 (.agg (.pair (.rep Tl e.2.1) (.pair (I e.2.2.1) (.eq (.int .u64 e.2.2.2)))))]) [0,1,2] ⟨rfl,rfl,rfl,rfl,trivial⟩ rfl) a w st⟩
     .show JN _ _ [(0,Pt c),(5,.eq z8.1),(6,.rep Tl r4.1),(7,I y7.2.2.2.1)] ([.sl z8.1 22 .val (List.set (gP z8.2 0 y7.2.2.2.2) (Int.toNat e.1) l),.sl l 3 Ti (x++[u]),.obj c 71 (.agg (.pair (.rep Tl e.2.1) (.pair (I e.2.2.1) (.eq (.int .u64 e.2.2.2)))))]++(fN z8.2 0 y7.2.2.2.2).eraseIdx (Int.toNat e.1));refine aC 1 rfl ?_;refine bM (Dc (pre:=[.obj c 71 (.agg (.pair (.rep Tl e.2.1) (.pair (I e.2.2.1) (.eq (.int .u64 e.2.2.2)))))]) (z:=z8) (i:=Int.toNat e.1) (gJ s).2) ?_;refine bn ?_;exact lT ((z8.1,og z8.2 (Int.toNat e.1) l),(e.2.1,e.2.2.1,e.2.2.2,List.set y7.2.2.2.2 (Int.toNat e.1) (x++[u]))) h (gf [.obj c 71 (.agg (.pair (.rep Tl e.2.1) (.pair (I e.2.2.1) (.eq (.int .u64 e.2.2.2)))))] (xT 22 (z8.1,og z8.2 (Int.toNat e.1) l) (List.set y7.2.2.2.2 (Int.toNat e.1) (x++[u]))) [0] ⟨rfl,rfl,rfl,rfl,trivial⟩ rfl)
   .refine ab (mq ?_);obtain⟨mc,M,h⟩:=aa h;refine jb (bp rfl M) ?_;refine aq (nl ?_);exact lT (y,(x9.1,x9.2.1,x9.2.2.1,mc,x9.2.2.2)) h (gf [.obj c 71 (.agg (.pair (.rep Tl x9.1) (.pair (I x9.2.1) (.eq (.int .u64 x9.2.2.1)))))] (xT 22 y x9.2.2.2) [0] ⟨rfl,rfl,rfl,rfl,trivial⟩ rfl)
  .refine xa ?_;exact lT (z8,(y7.1,y7.2.1,y7.2.2.1,y7.2.2.2.2)) h (gf [.obj c 71 (.agg (.pair (.rep Tl y7.1) (.pair (I y7.2.1) (.eq (.int .u64 y7.2.2.1)))))] (xT 22 z8 y7.2.2.2.2) [0] ⟨rfl,trivial⟩ rfl)
 .
  refine sr (mq ?_);refine aq (nt (aA ?_));refine bM (JM (pre:=[.obj c 71 (.agg (.pair (.rep Tl x5.1) (.pair (I x5.2.1) (.eq (.int .u64 x5.2.2.1)))))])) ?_;refine bM (ip [4,5,41] ⟨rfl,rfl,rfl,trivial⟩) ?_;cases h;exact aQ () [_] 1 ⟨rfl,trivial⟩ rfl
def fH(k:Nat)(r2:Int×bW):Nat->((List Int)×Int×Int×(List (List (List Int)))×Int)->Option ((List (List (List Int)))×(List Int)×Int×Int)
 |0,_=>none
 |n+1,c=>
  if 0 < c.2.2.2.2 then(((((if 0 < (c.2.2.2.1.length:Int) then((fx k (c.1,c.2.1,c.2.2.1) 3).bind λl=>
  some (l.2.1,l.2.2.1,l.2.2.2,l.1)) else(some (c.1,c.2.1,c.2.2.1,false))):Option ((List Int)×Int×Int×Bool)).bind λe=>
  if e.2.2.2=true then((ck ((c.2.2.2.1.length:Int) - 1)).bind λx=>
  (aR c.2.2.2.1 x).bind λu=>
  (iw k u).bind λr=>
  (cM (bQ (length c.2.2.2.1+length [r]))).bind λ_=>
  some (e.1,e.2.1,e.2.2.1,c.2.2.2.1++[r])) else((j9 k (e.1,e.2.1,e.2.2.1) r2.1).bind λh=>
  (cM (bQ (length c.2.2.2.1+length [h.1]))).bind λ_=>
  some (h.2.1,h.2.2.1,h.2.2.2,c.2.2.2.1++[h.1]))):Option ((List Int)×Int×Int×(List (List (List Int))))).bind λj=>
  (ck (c.2.2.2.2 - 1)).bind λs=>
  fH k r2 n (j.1,j.2.1,j.2.2.1,j.2.2.2,s)) else(some (c.2.2.2.1,c.1,c.2.1,c.2.2.1))
def kg(k:Nat)(a0:bW)(a1:Int)(a2:Int):Option (ae×bW):=
 (fQ k (a0.1,a0.2.1,a0.2.2) 1 a1).bind λr2=>
 (cE k (r2.2.1,r2.2.2.1,r2.2.2.2) 3).bind λr3=>
 (gX k (r3.2.1,r3.2.2.1,r3.2.2.2) [0,1,1,2,r3.1]).bind λr4=>
 (cE k (r4.2.1,r4.2.2.1,r4.2.2.2) 3).bind λr5=>
 (gX k (r5.2.1,r5.2.2.1,r5.2.2.2) [0,1,2,r5.1]).bind λr6=>
 (fQ k (r6.2.1,r6.2.2.1,r6.2.2.2) 1 3).bind λr7=>
 (gX k (r7.2.1,r7.2.2.1,r7.2.2.2) [1,2,r7.1]).bind λr8=>
 (((fQ k (r8.2.1,r8.2.2.1,r8.2.2.2) 1 a2).bind λe=>
 fH k r2 k (e.2.1,e.2.2.1,e.2.2.2,([]:(List (List (List Int)))),e.1)):Option ((List (List (List Int)))×(List Int)×Int×Int)).bind λc=>
 some ((r2.1,r4.1,r6.1,r8.1,c.1,[]),(c.2.1,c.2.2.1,c.2.2.2))
theorem uT(k:Nat)(a0:bW)(c:Nat)(a1:Int)(a2:Int)(r:ae×bW)(h:kg k a0 a1 a2=some r):
 dy Tryz.prog 23 [Pt c,I a1,I a2] [.obj c 71 (.agg (.pair (.rep Tl a0.1) (.pair (I a0.2.1) (.eq (.int .u64 a0.2.2)))))] (λ_:Unit=>(bD [.agg (.pair (I r.1.1) (.pair (I r.1.2.1) (.pair (I r.1.2.2.1) (.pair (I r.1.2.2.2.1) (.pair (.rep (.slice (.slice Tl)) r.1.2.2.2.2.1) (.eq (.slice none 0 0)))))))],[.obj c 71 (.agg (.pair (.rep Tl r.2.1) (.pair (I r.2.2.1) (.eq (.int .u64 r.2.2.2)))))])):=by
 unfold kg at h
 replace h:=be h
 refine dy.of 67 Tryz.func23 rfl Tryz.ntmps23 rfl λS w0=>?_
 refine sr ?_
 refine aS rfl rfl rfl (ba rfl yU F5) trivial λb1=>?_
 refine nt ?_
 refine sr ?_
 iterate 2 refine mq ?_
 obtain⟨r2,Wj,h⟩:=aa h
 have Wu:=jq k (a0.1,a0.2.1,a0.2.2) c 1 a1 r2 Wj
 refine fr 1 ?_
 refine kc (ay [.tmp 10,.const (.int .i64 (1)),.tmp 11] rfl rfl MU rfl Wu) ?_
 iterate 2 refine mq ?_
 obtain⟨r3,Wi,h⟩:=aa h
 have Wt:=cN k (r2.2.1,r2.2.2.1,r2.2.2.2) c 3 r3 Wi
 refine kb (ay [.tmp 14,.const (.int .i64 (3))] rfl rfl wj rfl Wt) ?_
 refine cz rfl (bj (t:=Ti) [(.const (.int .i64 (0)),_),(.const (.int .i64 (1)),_),(.const (.int .i64 (1)),_),(.const (.int .i64 (2)),_),(.tmp 15,_)] [0,1,1,2,r3.1] rfl rfl dL (.cons rfl .int (.cons rfl .int (.cons rfl .int (.cons rfl .int (.cons rfl .int .nil))))) rfl rfl) ⟨rfl,rfl,rfl,rfl,rfl,trivial⟩ ?_
 obtain⟨r4,Wh,h⟩:=aa h
 have Ws:=lK k (r3.2.1,r3.2.2.1,r3.2.2.2) c [0,1,1,2,r3.1] r4 Wh
 refine kb (ay [.tmp 13,.tmp 16] rfl rfl P5 rfl Ws) ?_
 iterate 2 refine mq ?_
 obtain⟨r5,Wg,h⟩:=aa h
 have Wq:=cN k (r4.2.1,r4.2.2.1,r4.2.2.2) c 3 r5 Wg
 refine kb (ay [.tmp 19,.const (.int .i64 (3))] rfl rfl wj rfl Wq) ?_
 refine cz rfl (bj (t:=Ti) [(.const (.int .i64 (0)),_),(.const (.int .i64 (1)),_),(.const (.int .i64 (2)),_),(.tmp 20,_)] [0,1,2,r5.1] rfl rfl dL (.cons rfl .int (.cons rfl .int (.cons rfl .int (.cons rfl .int .nil)))) rfl rfl) ⟨rfl,rfl,rfl,rfl,trivial⟩ ?_
 obtain⟨r6,We,h⟩:=aa h
 have Wp:=lK k (r5.2.1,r5.2.2.1,r5.2.2.2) c [0,1,2,r5.1] r6 We
 refine kb (ay [.tmp 18,.tmp 21] rfl rfl P5 rfl Wp) ?_
 iterate 2 refine mq ?_
 obtain⟨r7,Wc,h⟩:=aa h
 have Wn:=jq k (r6.2.1,r6.2.2.1,r6.2.2.2) c 1 3 r7 Wc
 refine kc (ay [.tmp 24,.const (.int .i64 (1)),.const (.int .i64 (3))] rfl rfl MU rfl Wn) ?_
 refine jc (bj (t:=Ti) [(.const (.int .i64 (1)),_),(.const (.int .i64 (2)),_),(.tmp 25,_)] [1,2,r7.1] rfl rfl dL (.cons rfl .int (.cons rfl .int (.cons rfl .int .nil))) rfl rfl) ?_
 obtain⟨r8,Wb,h⟩:=aa h
 have Wm:=lK k (r7.2.1,r7.2.2.1,r7.2.2.2) c [1,2,r7.1] r8 Wb
 refine kb (ay [.tmp 23,.tmp 26] rfl rfl P5 rfl Wm) ?_
 refine cz rfl (eB [(0,.tmp 12,_),(1,.tmp 17,_),(2,.tmp 22,_),(3,.tmp 27,_)] rfl Rh yU OC (jV ⟨rfl,rfl,rfl,rfl,trivial⟩) rfl) ⟨rfl,rfl,rfl,rfl,trivial⟩ ?_
 refine aS rfl rfl rfl (ba rfl yU F5) trivial λb9=>?_
 refine aM rfl rfl (aI rfl iM trivial rfl rfl) ⟨rfl,rfl,trivial⟩ ?_
 refine nt ?_
 refine aJ (Z:=Value) (α:=(List (List (List Int)))×(List Int)×Int×Int) (λJ y=>[(6,Pt b1),(7,Pt b9)]) (λJ y=>[.obj b1 26 (.agg (.pair (I 0) (.pair (I 0) (.pair (I 0) (.pair (I 0) (.pair (.eq (.slice none 0 0)) (.eq (.slice none 0 0)))))))),.obj b9 26 (.agg (.pair (I r2.1) (.pair (I r4.1) (.pair (I r6.1) (.pair (I r8.1) (.pair (.eq J) (.eq (.slice none 0 0)))))))),.sl J 30 (.slice Tl) y.1,.obj c 71 (.agg (.pair (.rep Tl y.2.1) (.pair (I y.2.2.1) (.eq (.int .u64 y.2.2.2)))))]) h (λK h=>?_) (λJ y h=>?_)
 .
  refine sr ?_;iterate 2 refine mq ?_
  obtain⟨F,qt,h⟩:=aa h;refine fr 1 ?_;refine kc (ay [.tmp 29,.const (.int .i64 (1)),.tmp 30] rfl rfl MU rfl (jq k (r8.2.1,r8.2.2.1,r8.2.2.2) c 1 a2 F qt)) ?_;refine aq (nt (ai ?_));refine ik (SE.nil 30 (.slice Tl)) ?_;refine aG (λu e=>[(0,Pt c),(6,Pt b1),(7,Pt b9),(8,I e.2.2.2.2)]) (λu e=>[.obj c 71 (.agg (.pair (.rep Tl e.1) (.pair (I e.2.1) (.eq (.int .u64 e.2.2.1))))),.obj b1 26 (.agg (.pair (I 0) (.pair (I 0) (.pair (I 0) (.pair (I 0) (.pair (.eq (.slice none 0 0)) (.eq (.slice none 0 0)))))))),.obj b9 26 (.agg (.pair (I r2.1) (.pair (I r4.1) (.pair (I r6.1) (.pair (I r8.1) (.pair (.eq u) (.eq (.slice none 0 0)))))))),.sl u 30 (.slice Tl) e.2.2.2.1]) (fH k r2) k (.slice none 0 0) (F.2.1,F.2.2.1,F.2.2.2,([]:(List (List (List Int)))),F.1) (λ_=>rfl) h (SE.fin [1,3,2,0] ⟨rfl,rfl,rfl,rfl,trivial⟩ rfl) (λn u e h=>?_);unfold fH at h;refine aj (sr (mq ?_));refine jb (ml rfl) ?_;refine nt (ci h (λh=>?_) (λh=>?_))
  .refine sk (aJ (Z:=Value) (α:=(List Int)×Int×Int×(List (List (List Int)))) (λD l=>[(0,Pt c),(6,Pt b1),(7,Pt b9),(8,I e.2.2.2.2)]) (λD l=>[.obj c 71 (.agg (.pair (.rep Tl l.1) (.pair (I l.2.1) (.eq (.int .u64 l.2.2.1))))),.obj b1 26 (.agg (.pair (I 0) (.pair (I 0) (.pair (I 0) (.pair (I 0) (.pair (.eq (.slice none 0 0)) (.eq (.slice none 0 0)))))))),.obj b9 26 (.agg (.pair (I r2.1) (.pair (I r4.1) (.pair (I r6.1) (.pair (I r8.1) (.pair (.eq D) (.eq (.slice none 0 0)))))))),.sl D 30 (.slice Tl) l.2.2.2]) h (λK h=>?_) (λD l h=>?_))
   .refine ai (aj (sr (fl eO ?_)));refine fr 2 ?_;refine lo lZ ?_;refine fr 3 ?_;refine ka (jA rfl rfl Bn) ?_;refine aq (nt ?_);refine aJ (Z:=Unit) (α:=(List Int)×Int×Int×Bool) (λQ j=>[(0,Pt c),(6,Pt b1),(7,Pt b9),(8,I e.2.2.2.2),(9,I (e.2.2.2.1.length:Int)),(44,.eq (.bool j.2.2.2))]) (λQ j=>[.obj c 71 (.agg (.pair (.rep Tl j.1) (.pair (I j.2.1) (.eq (.int .u64 j.2.2.1))))),.obj b1 26 (.agg (.pair (I 0) (.pair (I 0) (.pair (I 0) (.pair (I 0) (.pair (.eq (.slice none 0 0)) (.eq (.slice none 0 0)))))))),.obj b9 26 (.agg (.pair (I r2.1) (.pair (I r4.1) (.pair (I r6.1) (.pair (I r8.1) (.pair (.eq u) (.eq (.slice none 0 0)))))))),.sl u 30 (.slice Tl) e.2.2.2.1]) h (λK h=>?_) (λQ j h=>?_)
    .refine ab (mq ?_);refine jb (ml rfl) ?_;refine mq ?_;refine cQ (s:=41) rfl (λhb=>?_) (λhb=>?_)
     .replace h:=eQ (ta hb) h;refine gm ?_;obtain⟨E,pq,h⟩:=aa h;refine fr 2 ?_;refine pi rfl rfl rfl rfl rfl rfl (ay [.tmp 42,.const (.int .i64 (3))] rfl rfl P6 rfl (jF k (e.1,e.2.1,e.2.2.1) c 3 E pq)) ⟨rfl,rfl,trivial⟩ ?_;refine pt (nl ?_);exact jz ((),(E.2.1,E.2.2.1,E.2.2.2,E.1)) h [0,3,2,1]
     .replace h:=c6 (tc hb) h;iterate 2 refine gn ?_
      refine pf (nl ?_);exact jz ((),(e.1,e.2.1,e.2.2.1,false)) h [2,3,1,0]
    .refine cv h (λh=>?_) (λh=>?_)
     .refine aj (co ?_);refine da (aF rfl eO) ?_;refine ea 2 (ax rfl lZ ny rfl) ?_;refine da (aF rfl eO) ?_;refine ea 2 (ax rfl lZ ny rfl) ?_;refine dm ?_;obtain⟨V8,X,h⟩:=aa h;refine db (dM rfl X) ?_;obtain⟨zM,M,h⟩:=aa h;refine eb 3 (bB (t:=(.slice Tl)) rfl Bn zr M) ?_;refine ea 3 (eg (i:=Int.toNat V8) (off:=0) rfl zr (λ_=>rfl) rfl (dR M).2.2 rfl) ?_;obtain⟨O,mw,h⟩:=aa h;refine da (yL (ay [.tmp 52] rfl rfl U6 rfl (sW k zM O mw))) ?_;refine da (bj (t:=(.slice Tl)) [(.tmp 53,_)] [O] rfl rfl BI (.cons rfl .rep .nil) rfl rfl) ?_;refine df dz ?_;obtain⟨Wx,gw,h⟩:=aa h;refine fr 3 ?_;refine dS rfl rfl rfl (cg rfl rfl BI (am gw)) ⟨rfl,rfl,trivial⟩ λWa=>?_;refine fl eO ?_;refine qW λo25=>?_;refine fr 3 ?_;refine aM rfl rfl (aI rfl lZ o25 rfl rfl) ⟨rfl,rfl,trivial⟩ ?_;refine nt (fD (bO (c7 (ao ?_))));exact jz (Wa,(j.1,j.2.1,j.2.2.1,e.2.2.2.1++[O])) h [2,3,0,1]
     .refine sk (co ?_);refine da (aF rfl eO) ?_;refine ea 2 (ax rfl lZ ny rfl) ?_;refine dm ?_;refine da (aF rfl im) ?_;refine ea 2 (ax rfl cF ny rfl) ?_;obtain⟨x,mc,h⟩:=aa h;refine ER 0 rfl rfl rfl rfl (ay [.tmp 59,.tmp 61] rfl rfl U1 rfl (uR k (j.1,j.2.1,j.2.2.1) c r2.1 x mc)) ⟨rfl,rfl,trivial⟩ ?_;refine da (bj (t:=(.slice Tl)) [(.tmp 62,_)] [x.1] rfl rfl BI (.cons rfl .rep .nil) rfl rfl) ?_;refine ES (Δ':=[.obj b1 26 (.agg (.pair (I 0) (.pair (I 0) (.pair (I 0) (.pair (I 0) (.pair (.eq (.slice none 0 0)) (.eq (.slice none 0 0)))))))),.obj b9 26 (.agg (.pair (I r2.1) (.pair (I r4.1) (.pair (I r6.1) (.pair (I r8.1) (.pair (.eq u) (.eq (.slice none 0 0)))))))),.sl u 30 (.slice Tl) e.2.2.2.1,.obj c 71 (.agg (.pair (.rep Tl x.2.1) (.pair (I x.2.2.1) (.eq (.int .u64 x.2.2.2)))))]) (by kernel_rfl) dz (by kernel_rfl) ?_;obtain⟨Wv,Y,h⟩:=aa h;refine fr 2 ?_;refine dS rfl rfl rfl (cg rfl rfl BI (am Y)) ⟨rfl,rfl,trivial⟩ λV9=>?_;refine fl eO ?_;refine qW λo29=>?_;refine fr 2 ?_;refine aM rfl rfl (aI rfl lZ o29 rfl rfl) ⟨rfl,rfl,trivial⟩ ?_;refine aH (bn ?_);exact jz (V9,(x.2.1,x.2.2.1,x.2.2.2,e.2.2.2.1++[x.1])) h [3,2,0,1]
   .refine ab (mq ?_);obtain⟨zz,U,h⟩:=aa h;refine jb (dM rfl U) ?_;refine aq (nl ?_);exact jz (D,(l.1,l.2.1,l.2.2.1,l.2.2.2,zz)) h [0,1,2,3]
  .refine xa ?_;exact jz (u,(e.2.2.2.1,e.1,e.2.1,e.2.2.1)) h [1,2,3,0]
 .
  refine sr (fr 1 ?_);refine fr 2 ?_;refine d4 (nT (off:=4) [] trivial rfl rfl) ?_;refine lo iM ?_;refine fr 1 ?_;refine aM rfl rfl (aI rfl iM trivial rfl rfl) ⟨rfl,rfl,trivial⟩ ?_;refine nt (aA (bM (SE.fin (Γ':=[(6,_)]) [2,0,1] ⟨rfl,trivial⟩ rfl) ?_));cases h;exact aQ () [.agg (.pair (I r2.1) (.pair (I r4.1) (.pair (I r6.1) (.pair (I r8.1) (.pair (.rep (.slice (.slice Tl)) y.1) (.eq (.slice none 0 0)))))))] 1 ⟨⟨_,_,_,_,_,rfl,(.tail _ (.head _)),iM,(t6),rfl⟩,trivial⟩ rfl
def eH(k:Nat)(r2:ae×bW):Nat->((List Int)×Int×Int×(List bH)×Int)->Option ((List bH)×(List Int)×Int×Int)
 |0,_=>none
 |n+1,y7=>
  if 0 < y7.2.2.2.2 then((iv k (y7.1,y7.2.1,y7.2.2.1) (r2.1.1,r2.1.2.1,r2.1.2.2.1,r2.1.2.2.2.1,r2.1.2.2.2.2.1,())).bind λr9=>
  (cM (bQ (length y7.2.2.2.1+length [r9.1]))).bind λ_=>
  (ck (y7.2.2.2.2 - 1)).bind λc=>
  eH k r2 n (r9.2.1,r9.2.2.1,r9.2.2.2,y7.2.2.2.1++[r9.1],c)) else(some (y7.2.2.2.1,y7.1,y7.2.1,y7.2.2.1))
def gy(k:Nat)(a0:bW)(a1:Int)(a2:Int):Option (ae×bW):=
 (kg k (a0.1,a0.2.1,a0.2.2) a1 a2).bind λr2=>
 (((cE k (r2.2.1,r2.2.2.1,r2.2.2.2) 4).bind λr6=>
 eH k r2 k (r6.2.1,r6.2.2.1,r6.2.2.2,([]:(List bH)),r6.1)):Option ((List bH)×(List Int)×Int×Int)).bind λx4=>
 some ((r2.1.1,r2.1.2.1,r2.1.2.2.1,r2.1.2.2.2.1,r2.1.2.2.2.2.1,x4.1),(x4.2.1,x4.2.2.1,x4.2.2.2))
theorem sU(k:Nat)(a0:bW)(c:Nat)(a1:Int)(a2:Int)(r:ae×bW)(h:gy k a0 a1 a2=some r):
 dy Tryz.prog 9 [Pt c,I a1,I a2] [.obj c 71 (.agg (.pair (.rep Tl a0.1) (.pair (I a0.2.1) (.eq (.int .u64 a0.2.2)))))] (λ_:Unit=>(bD [.rep au r.1],[.obj c 71 (.agg (.pair (.rep Tl r.2.1) (.pair (I r.2.2.1) (.eq (.int .u64 r.2.2.2)))))])):=by
 unfold gy at h
 replace h:=be h
 refine dy.of 28 Tryz.func9 rfl Tryz.ntmps9 rfl λS w0=>?_
 refine sr ?_
 refine aS rfl rfl rfl (ba rfl yU F5) trivial λb1=>?_
 refine nt ?_
 refine sr ?_
 iterate 3 refine mq ?_
 obtain⟨r2,D,h⟩:=aa h
 have E:=uT k (a0.1,a0.2.1,a0.2.2) c a1 a2 r2 D
 refine fr 1 ?_
 refine kc (ay [.tmp 9,.tmp 10,.tmp 11] rfl rfl Vh rfl E) ?_
 refine aS rfl rfl rfl (ba rfl yU F5) trivial λb3=>?_
 refine aM rfl rfl (aI rfl iM trivial rfl rfl) ⟨rfl,rfl,trivial⟩ ?_
 refine nt ?_
 refine aJ (Z:=Value) (α:=(List bH)×(List Int)×Int×Int) (λz5 x4=>[(6,Pt b1),(7,Pt b3)]) (λz5 x4=>[.obj b1 26 (.agg (.pair (I 0) (.pair (I 0) (.pair (I 0) (.pair (I 0) (.pair (.eq (.slice none 0 0)) (.eq (.slice none 0 0)))))))),.obj b3 26 (.agg (.pair (I r2.1.1) (.pair (I r2.1.2.1) (.pair (I r2.1.2.2.1) (.pair (I r2.1.2.2.2.1) (.pair (.rep (.slice (.slice Tl)) r2.1.2.2.2.2.1) (.eq z5))))))),.sl z5 47 bf x4.1,.obj c 71 (.agg (.pair (.rep Tl x4.2.1) (.pair (I x4.2.2.1) (.eq (.int .u64 x4.2.2.2)))))]) h (λK h=>?_) (λz5 x4 h=>?_)
 .
  refine sr (mq ?_);obtain⟨r6,y,h⟩:=aa h;refine fr 1 ?_;refine kb (ay [.tmp 13,.const (.int .i64 (4))] rfl rfl wj rfl (cN k (r2.2.1,r2.2.2.1,r2.2.2.2) c 4 r6 y)) ?_;refine aq (nt (ai ?_));refine ik (SE.nil 47 bf) ?_;refine aG (λz8 y7=>[(0,Pt c),(6,Pt b1),(7,Pt b3),(8,I y7.2.2.2.2)]) (λz8 y7=>[.obj c 71 (.agg (.pair (.rep Tl y7.1) (.pair (I y7.2.1) (.eq (.int .u64 y7.2.2.1))))),.obj b1 26 (.agg (.pair (I 0) (.pair (I 0) (.pair (I 0) (.pair (I 0) (.pair (.eq (.slice none 0 0)) (.eq (.slice none 0 0)))))))),.obj b3 26 (.agg (.pair (I r2.1.1) (.pair (I r2.1.2.1) (.pair (I r2.1.2.2.1) (.pair (I r2.1.2.2.2.1) (.pair (.rep (.slice (.slice Tl)) r2.1.2.2.2.2.1) (.eq z8))))))),.sl z8 47 bf y7.2.2.2.1]) (eH k r2) k (.slice none 0 0) (r6.2.1,r6.2.2.1,r6.2.2.2,([]:(List bH)),r6.1) (λ_=>rfl) h (SE.fin [1,3,2,0] ⟨rfl,rfl,rfl,rfl,trivial⟩ rfl) (λn z8 y7 h=>?_);unfold eH at h;refine aj (sr (mq ?_));refine jb (ml rfl) ?_;refine nt (ci h (λh=>?_) (λh=>?_))
  .refine sk (aj (ai (co ?_)));refine da (aF rfl nP) ?_;refine ea 2 (ax rfl xE ny rfl) ?_;refine dm ?_;refine ea 2 (ax rfl iM (t6) rfl) ?_;obtain⟨r9,u,h⟩:=aa h;refine ER 0 rfl rfl rfl rfl (bV (N:=[(.tmp 21,Pt c),(.tmp 22,.agg (.pair (I r2.1.1) (.pair (I r2.1.2.1) (.pair (I r2.1.2.2.1) (.pair (I r2.1.2.2.2.1) (.pair (.rep (.slice (.slice Tl)) r2.1.2.2.2.2.1) (.eq z8)))))))]) (ay [.tmp 21,.tmp 22] rfl rfl Vi rfl (sV k (y7.1,y7.2.1,y7.2.2.1) c (r2.1.1,r2.1.2.1,r2.1.2.2.1,r2.1.2.2.2.1,r2.1.2.2.2.2.1,()) r9 u)) λ_ _ _ hn=>⟨hn.1,(Nu (t:=(.pair Ti (.pair Ti (.pair Ti (.pair Ti (.pair (.slice (.slice Tl)) .ign)))))) (x:=(r2.1.1,r2.1.2.1,r2.1.2.2.1,r2.1.2.2.2.1,r2.1.2.2.2.2.1,())) (pn (iq .int) (pn (iq .int) (pn (iq .int) (pn (iq .int) (pn (iq .rep) N4))))) hn.2.1),trivial⟩) ⟨rfl,rfl,trivial⟩ ?_;refine da (bj (t:=bf) [(.tmp 23,_)] [r9.1] rfl rfl Le (.cons rfl .rep .nil) rfl rfl) ?_;refine ES (Δ':=[.obj b1 26 (.agg (.pair (I 0) (.pair (I 0) (.pair (I 0) (.pair (I 0) (.pair (.eq (.slice none 0 0)) (.eq (.slice none 0 0)))))))),.obj b3 26 (.agg (.pair (I r2.1.1) (.pair (I r2.1.2.1) (.pair (I r2.1.2.2.1) (.pair (I r2.1.2.2.2.1) (.pair (.rep (.slice (.slice Tl)) r2.1.2.2.2.2.1) (.eq z8))))))),.sl z8 47 bf y7.2.2.2.1,.obj c 71 (.agg (.pair (.rep Tl r9.2.1) (.pair (I r9.2.2.1) (.eq (.int .u64 r9.2.2.2)))))]) (by kernel_rfl) dz (by kernel_rfl) ?_;obtain⟨F,j,h⟩:=aa h;refine fr 2 ?_;refine dS rfl rfl rfl (cg rfl rfl Le (am j)) ⟨rfl,rfl,trivial⟩ λs=>?_;refine fl nP ?_;refine qW λo12=>?_;refine fr 2 ?_;refine aM rfl rfl (aI rfl xE o12 rfl rfl) ⟨rfl,rfl,trivial⟩ ?_;refine aH (aL (tn (ab (mq ?_))));obtain⟨l,e,h⟩:=aa h;refine jb (dM rfl e) ?_;refine aq (nl ?_);exact jz (s,(r9.2.1,r9.2.2.1,r9.2.2.2,y7.2.2.2.1++[r9.1],l)) h [3,2,0,1]
  .refine xa ?_;exact jz (z8,(y7.2.2.2.1,y7.1,y7.2.1,y7.2.2.1)) h [1,2,3,0]
 .
  refine sr (fr 1 ?_);refine fr 2 ?_;refine d4 (nT (off:=5) [] trivial rfl rfl) ?_;refine lo iM ?_;refine fr 1 ?_;refine aM rfl rfl (aI rfl iM trivial rfl rfl) ⟨rfl,rfl,trivial⟩ ?_;refine nt (aA (bM (ge (a:=.agg (.pair (I r2.1.1) (.pair (I r2.1.2.1) (.pair (I r2.1.2.2.1) (.pair (I r2.1.2.2.2.1) (.pair (.rep (.slice (.slice Tl)) r2.1.2.2.2.2.1) (Rs bf x4.1))))))) (a':=.rep au (r2.1.1,r2.1.2.1,r2.1.2.2.1,r2.1.2.2.2.1,r2.1.2.2.2.2.1,x4.1)) (iq (.agg (.pair .int (.pair .int (.pair .int (.pair .int (.pair .rep .rep)))))))) ?_));refine bM (SE.fin (Γ':=[(6,_)]) [2,0,1] ⟨rfl,trivial⟩ rfl) ?_;cases h;exact aQ () [.rep au (r2.1.1,r2.1.2.1,r2.1.2.2.1,r2.1.2.2.2.1,r2.1.2.2.2.2.1,x4.1)] 1 ⟨⟨_,_,_,_,_,rfl,(.tail _ (.head _)),iM,(t6),rfl⟩,trivial⟩ rfl
def fe(k:Nat)(a0:ae)(a1:(List Int)):Nat->(Int×Int)->Option (Except ((Option ae)×Int×Int) Int)
 |0,_=>none
 |n+1,y5=>
  if y5.2 < (a1.length:Int) then((aR a1 y5.2).bind λx7=>
  (ck (a0.1 - 1)).bind λx8=>
  (dP k x7 0 x8).bind λr9=>
  if¬(r9=true) then(some (.error (none,0,3))) else(((if 0 < y5.2 then((ck (y5.2 - 1)).bind λh=>
  (aR a1 h).bind λe=>
  some (decide (x7≤e))) else(some false)):Option (Bool)).bind λj=>
  if j=true then(some (.error (none,0,5))) else((eZ k y5.1 x7).bind λl=>
  (ck (y5.2+1)).bind λc=>
  fe k a0 a1 n (l,c)))) else(some (.ok y5.1))
def dH(k:Nat)(a0:ae)(h:Int)(e:(List Int)):Nat->Int->Option (Except ((Option ae)×Int×Int) Unit)
 |0,_=>none
 |n+1,c=>
  if c < (e.length:Int) then((aR e c).bind λu=>
  (ck (a0.1 - 1)).bind λs=>
  (ck ((a0.2.2.2.2.1.length:Int) - 1)).bind λr=>
  (aR [s,r,(a0.2.2.2.2.1.length:Int)] h).bind λl=>
  (dP k u 0 l).bind λx=>
  if¬(x=true) then(some (.error (none,0,3))) else((ck (c+1)).bind λj=>
  dH k a0 h e n j)) else(some (.ok ()))
def cR(k:Nat)(a0:ae)(a2:(List Int))(a3:(List Int))(a4:(List Int)):Nat->Int->Option (Except ((Option ae)×Int×Int) Unit)
 |0,_=>none
 |n+1,c=>
  if c < ([a2,a3,a4].length:Int) then(bE (α:=Unit) ((aR [a2,a3,a4] c).bind λj=>
  dH k a0 c j k 0) (λe=>some (.error e)) λ_=>
  (ck (c+1)).bind λh=>
  cR k a0 a2 a3 a4 n h) else(some (.ok ()))
def jj(k:Nat)(a0:ae)(a1:(List Int))(a2:(List Int))(a3:(List Int))(a4:(List Int)):Option ((Option ae)×Int×Int):=
 (ni k a0).bind λr2=>
 if¬(r2=0) then(some (none,0,r2)) else(bE (α:=Int) (fe k a0 a1 k (0,0)) (some) λx3=>
 bE (α:=Unit) (cR k a0 a2 a3 a4 k 0) (some) λ_=>
 (jk k a0).bind λe=>
 f9 e (none) (λc=>(eI k c).bind λh=>
 some (some c,x3,0)))
theorem jZ(k:Nat)(a0:ae)(a1:(List Int))(a2:(List Int))(a3:(List Int))(a4:(List Int))(r:(Option ae)×Int×Int)(h:jj k a0 a1 a2 a3 a4=some r):
 bP (dN Tryz.prog) 37 [.rep au a0,.rep Tl a1,.rep Tl a2,.rep Tl a3,.rep Tl a4] [] (λz:Nat×Nat=>(bD [Ls r.1 z.1,.eq (.int .u8 r.2.1),I r.2.2],Lr r.1 λq=>rf q z.1 z.2 k)):=by
 unfold jj at h
 replace h:=be h
 refine bP.of 95 Tryz.func37 rfl Tryz.ntmps37 rfl λS w0=>?_
 refine sr ?_
 refine bx λb1=>?_
 refine cq ?_
 refine cq ?_
 refine cq ?_
 refine nt ?_
 refine aj ?_
 refine sr ?_
 refine lo iM ?_
 obtain⟨r2,Wy,h⟩:=aa h
 have Wz:=yd k a0 r2 Wy
 refine ja (ay [.tmp 22] rfl rfl UX rfl Wz) ?_
 refine aq ?_
 refine nt ?_
 refine sr ?_
 refine mq ?_
 refine jb (fB rfl) ?_
 refine nt ?_
 refine cn h (λh=>?_) (λh=>?_)
 .
  refine sr (mq ?_);refine cq ?_;refine cq ?_;refine aq (nt (rx ?_));cases h;exact aQ (0,0) [.eq (.pointer none),_,_] 0 ⟨rfl,rfl,rfl,trivial⟩ rfl
 .
  refine sk (sr (cq (nt ?_)));refine dk (Z:=Unit) (α:=Int) (λz4 x3=>[(2,.rep Tl a2),(3,.rep Tl a3),(4,.rep Tl a4),(5,Pt b1),(14,.eq (.int .u8 x3))]) (λz4 x3=>[.obj b1 26 (.rep au a0)]) (λe=>e=r) h (λe h=>Option.some.inj h) (λK hR h=>?_) (λz4 x3 h=>?_)
  .refine sr (mq ?_);refine ol g7 ?_;refine fq rfl ?_;refine nt (ai (aG (λz6 y5=>[(1,.rep Tl a1),(2,.rep Tl a2),(3,.rep Tl a3),(4,.rep Tl a4),(5,Pt b1),(14,.eq (.int .u8 y5.1)),(27,.rep Tl a1),(28,I (a1.length:Int)),(29,I y5.2)]) (λz6 y5=>[.obj b1 26 (.rep au a0)]) (fe k a0 a1) k () (0,0) (λ_=>rfl) h (SE.fin [0] ⟨rfl,rfl,rfl,rfl,rfl,rfl,rfl,rfl,rfl,trivial⟩ rfl) (λn z6 y5 h=>?_)));unfold fe at h;refine sr (jb (bA rfl) ?_);refine nt (aj (ci h (λh=>?_) (λh=>?_)))
   .refine sk (aj (ai (sr (mq ?_))));obtain⟨x7,Wv,h⟩:=aa h;refine jb (aW (t:=Ti) rfl g7 cF Wv) ?_;refine ja (av (t:=Ti) rfl cF rfl) ?_;refine aq ?_;refine aq (nt (aj (sr ?_)));refine mq ?_;refine fl im ?_;refine lo cF ?_;obtain⟨x8,Wu,h⟩:=aa h;refine jb (dM rfl Wu) ?_;obtain⟨r9,Wx,h⟩:=aa h;refine jc (ay [.tmp 34,.const (.int .i64 (0)),.tmp 37] rfl rfl yx rfl (dU k x7 0 x8 r9 Wx)) ?_;refine ja (ii rfl) ?_;refine nt (cw h (λh=>?_) (λh=>?_))
    .refine sr (cq ?_);refine cq ?_;refine cq (nt (rx (br (bh (bo ?_)))));obtain rfl:=hR _ h;exact aQ (0,0) [.eq (.pointer none),_,_] 0 ⟨rfl,rfl,rfl,trivial⟩ rfl
    .refine sk (aj (aJ (Z:=Unit) (α:=Bool) (λO y=>[(1,.rep Tl a1),(2,.rep Tl a2),(3,.rep Tl a3),(4,.rep Tl a4),(5,Pt b1),(14,.eq (.int .u8 y5.1)),(16,I x7),(27,.rep Tl a1),(28,I (a1.length:Int)),(29,I y5.2),(50,.eq (.bool y))]) (λO y=>[.obj b1 26 (.rep au a0)]) h (λK h=>?_) (λO y h=>?_)))
     .refine ab (mq ?_);refine jb (ml rfl) ?_;refine mq ?_;refine cQ (s:=42) rfl (λhb=>?_) (λhb=>?_)
      .replace h:=eQ (ta hb) h;refine gm ?_;refine gm ?_;refine gm ?_;obtain⟨WC,Wa,h⟩:=aa h;refine gb (dM rfl Wa) ?_;obtain⟨Wp,V9,h⟩:=aa h;refine gb (aW (t:=Ti) rfl g7 cF V9) ?_;refine ga (av (t:=Ti) rfl cF rfl) ?_;refine gb (zL rfl) ?_;refine pt (nl ?_);exact jz ((),decide (x7≤Wp)) h [0]
      .replace h:=c6 (tc hb) h;iterate 7 refine gn ?_
       refine pf (nl ?_);exact jz ((),false) h [0]
     .refine cv h (λh=>?_) (λh=>?_)
      .refine sr (cq ?_);refine cq ?_;refine cq (nt (rx (br (bh (bo ?_)))));obtain rfl:=hR _ h;exact aQ (0,0) [.eq (.pointer none),_,_] 0 ⟨rfl,rfl,rfl,trivial⟩ rfl
      .refine sk (ab ?_);iterate 2 refine mq ?_
       obtain⟨Y,Wg,h⟩:=aa h;refine jb (ay [.tmp 51,.tmp 52] rfl rfl MS rfl (iF k y5.1 x7 Y Wg)) ?_;refine aq (aH (aL (tn (ab ?_))));obtain⟨Wn,V8,h⟩:=aa h;refine jb (bp rfl V8) ?_;refine mq (nl ?_);exact jz ((),(Y,Wn)) h [0]
   .refine xa ?_;exact jz ((),y5.1) h [0]
  .refine dk (Z:=Unit) (α:=Unit) (λM U=>[(5,Pt b1),(14,.eq (.int .u8 x3))]) (λM U=>[.obj b1 26 (.rep au a0)]) (λe=>e=r) h (λe h=>Option.some.inj h) (λK hR h=>?_) (λM U h=>?_)
   .refine sr ?_;iterate 3 refine mq ?_
    refine jc (bj (t:=Tl) [(.tmp 55,_),(.tmp 56,_),(.tmp 57,_)] [a2,a3,a4] rfl rfl l7 (.cons rfl .rep (.cons rfl .rep (.cons rfl .rep .nil))) rfl rfl) ?_;refine ol oq ?_;refine fq rfl ?_;refine nt (ai (aG (λJ c=>[(5,Pt b1),(14,.eq (.int .u8 x3)),(58,.rep (.slice Tl) [a2,a3,a4]),(59,I ([a2,a3,a4].length:Int)),(60,I c)]) (λJ c=>[.obj b1 26 (.rep au a0)]) (cR k a0 a2 a3 a4) k () 0 (λ_=>rfl) h (SE.fin [0] ⟨rfl,rfl,rfl,rfl,rfl,trivial⟩ rfl) (λn J c h=>?_)));unfold cR at h;refine sr (jb (bA rfl) ?_);refine nt (aj (ci h (λh=>?_) (λh=>?_)))
    .refine sk (dk (Z:=Unit) (α:=Unit) (λE Q=>[(5,Pt b1),(14,.eq (.int .u8 x3)),(58,.rep (.slice Tl) [a2,a3,a4]),(59,I ([a2,a3,a4].length:Int)),(60,I c)]) (λE Q=>[.obj b1 26 (.rep au a0)]) (λe=>e=r) h (λe h=>hR e h) (λK hR h=>?_) (λE Q h=>?_))
     .refine ai (sr (mq ?_));obtain⟨x,zM,h⟩:=aa h;refine jb (aW (t:=Tl) rfl oq eo zM) ?_;refine ja (av (t:=Tl) rfl eo rfl) ?_;refine aq ?_;refine aq (nt (sr ?_));refine mq ?_;refine ol g7 ?_;refine fq rfl ?_;refine nt (ai (aG (λD u=>[(5,Pt b1),(14,.eq (.int .u8 x3)),(17,I c),(58,.rep (.slice Tl) [a2,a3,a4]),(59,I ([a2,a3,a4].length:Int)),(60,I c),(65,.rep Tl x),(66,I (x.length:Int)),(67,I u)]) (λD u=>[.obj b1 26 (.rep au a0)]) (dH k a0 c x) k () 0 (λ_=>rfl) h (SE.fin [0] ⟨rfl,rfl,rfl,rfl,rfl,rfl,rfl,rfl,rfl,trivial⟩ rfl) (λn D u h=>?_)));unfold dH at h;refine sr (jb (bA rfl) ?_);refine nt (aj (ci h (λh=>?_) (λh=>?_)))
      .refine sk (aj (ai (sr ?_)));obtain⟨Wm,zz,h⟩:=aa h;refine jb (aW (t:=Ti) rfl g7 cF zz) ?_;refine ja (av (t:=Ti) rfl cF rfl) ?_;refine aq (nt (sr ?_));refine mq ?_;refine fl im ?_;refine lo cF ?_;obtain⟨WB,qt,h⟩:=aa h;refine jb (dM rfl qt) ?_;refine fl eO ?_;refine lo lZ ?_;refine ol Bn ?_;obtain⟨WA,pq,h⟩:=aa h;refine jb (dM rfl pq) ?_;refine fl eO ?_;refine lo lZ ?_;refine ol Bn ?_;refine jc (Fg rfl Tn cF QU) ?_;refine mq ?_;obtain⟨Wj,mw,h⟩:=aa h;refine jb (oO (t:=Ti) rfl Tn cF rfl rfl (λ_=>rfl) mw) ?_;obtain⟨Ws,We,h⟩:=aa h;refine jc (ay [.tmp 71,.const (.int .i64 (0)),.tmp 84] rfl rfl yx rfl (dU k Wm 0 Wj Ws We)) ?_;refine ja (ii rfl) ?_;refine nt (cw h (λh=>?_) (λh=>?_))
       .refine sr (cq ?_);refine cq ?_;refine cq (nt (aA (br (bh (br (bh (bo ?_)))))));obtain rfl:=hR _ h;exact aQ (0,0) [.eq (.pointer none),_,_] 0 ⟨rfl,rfl,rfl,trivial⟩ rfl
       .refine bg (aL (tn (ab ?_)));obtain⟨Wi,mc,h⟩:=aa h;refine jb (bp rfl mc) ?_;refine mq (nl ?_);exact jz ((),Wi) h [0]
      .refine fD (bO (bO (c7 (bn ?_))));exact jz ((),()) h [0]
     .refine ab ?_;obtain⟨Wh,gw,h⟩:=aa h;refine jb (bp rfl gw) ?_;refine mq (nl ?_);exact jz ((),Wh) h [0]
    .refine xa ?_;exact jz ((),()) h [0]
   .refine sr (lo iM ?_);obtain⟨X,Wc,h⟩:=aa h;have j:=oa k a0 X Wc;rcases hr:X with _ |Wt
    .rw [hr] at h j;replace h:=ve h;refine aN (Δ:=[]) (F:=_) (λ_ _ _=>ah rfl _) rfl rfl (ay [.tmp 89] rfl rfl MV rfl j) ⟨rfl,trivial⟩ λ_=>?_;cases h
    .rw [hr] at h j;replace h:=vd h;refine aN (Δ:=[]) (F:=_) (λ_ _ _=>ah rfl _) rfl rfl (ay [.tmp 89] rfl rfl MV rfl j) ⟨rfl,trivial⟩ λl=>?_;refine aq (nt (sr ?_));refine mq ?_;obtain⟨Wq,Wb,h⟩:=aa h;refine fr 1 ?_;refine fr 1 ?_;refine aN (Δ:=[_,_]) (F:=_) (λ_ _ _=>ah rfl _) rfl rfl (aX [.tmp 91] rfl rfl UW rfl (qD k Wt l.1 l.2 Wq Wb)) ⟨rfl,trivial⟩ λ_=>?_;refine nt (sr ?_);iterate 2 refine mq ?_
     refine aq ?_;refine aq ?_;refine cq (nt (aA ?_));cases h;exact aQ (l.1,l.2) [.eq (.pointer (some ⟨l.1,0,none⟩)),_,_] 2 ⟨rfl,rfl,rfl,trivial⟩ rfl
def cG(k:Nat)(a0:ae)(a2:Int)(r1:(List (List Int))):Nat->Int->Option Bool
 |0,_=>none
 |n+1,y3=>
  if y3 < (a0.2.2.2.2.2.length:Int) then((aR a0.2.2.2.2.2 y3).bind λx5=>
  (((fa k a2 y3).bind λr9=>
  if¬(r9=true) then((aR r1 x5.2.1).bind λh=>
  (aR h x5.1).bind λe=>
  some (!decide ((decide (a0.2.2.1≤e))=x5.2.2))) else(some false)):Option (Bool)).bind λx7=>
  if x7=true then(some false) else((ck (y3+1)).bind λc=>
  cG k a0 a2 r1 n c)) else(some true)
def gC(k:Nat)(a0:ae)(a1:Int)(a2:Int):Option Bool:=
 (ma k a0 a1).bind λr1=>
 cG k a0 a2 r1 k 0
theorem oV(k:Nat)(a0:ae)(c z_a0:Nat)(a1:Int)(a2:Int)(r:Bool)(h:gC k a0 a1 a2=some r):
 Dl (dN Tryz.prog) 109 [Pt c,.eq (.int .u8 a1),.eq (.int .u8 a2)] [.obj c 125 (aO a0 z_a0),.inv z_a0 (bN k a0)] (.iface 156 (.agg #[])) r:=by
 unfold gC at h
 replace h:=be h
 refine Dl.of 48 Tryz.func109 rfl Tryz.ntmps109 rfl λS w0=>?_
 refine sr ?_
 iterate 2 refine mq ?_
 obtain⟨r1,E,h⟩:=aa h
 have J:=pH k a0 c z_a0 a1 r1 E
 refine fr 1 ?_
 refine fr 1 ?_
 refine aN (Δ:=[_,_]) (F:=_) (λ_ _ _=>ah rfl _) rfl rfl (aX [.tmp 9,.tmp 10] rfl rfl FI rfl J) ⟨rfl,rfl,trivial⟩ λ_=>?_
 refine aS rfl rfl rfl (ba rfl GA Jw) trivial λb2=>?_
 refine aM rfl rfl (aI rfl Hj rfl rfl rfl) ⟨rfl,rfl,trivial⟩ ?_
 refine d4 (jI (t:=(.arr 7 Tr)) (x:=r1) [6] .rep ⟨rfl,trivial⟩) ?_
 refine nt ?_
 refine sr ?_
 refine mq ?_
 refine ja (cO rfl) ?_
 refine fl ic ?_
 refine fl nP ?_
 refine lo xE ?_
 refine ol NG ?_
 refine fq rfl ?_
 refine nt ?_
 refine ai ?_
 refine aG (λz4 y3=>[(0,Pt c),(2,.eq (.int .u8 a2)),(6,.at (.arr 7 Tr) r1),(16,Rs bf a0.2.2.2.2.2),(17,I (a0.2.2.2.2.2.length:Int)),(18,I y3)]) (λz4 y3=>[.obj c 125 (aO a0 z_a0),.inv z_a0 (bN k a0)]) (cG k a0 a2 r1) k () 0 (λ_=>rfl) h (SE.fin [0,1] ⟨rfl,rfl,rfl,rfl,rfl,rfl,trivial⟩ rfl) (λn z4 y3 h=>?_)
 unfold cG at h
 refine sr ?_
 refine jb (bA rfl) ?_
 refine nt ?_
 refine aj ?_
 refine ci h (λh=>?_) (λh=>?_)
 .
  refine sk (aj (ai (sr (mq ?_))));obtain⟨x5,y,h⟩:=aa h;refine jb (aW (t:=bf) rfl NG ry y) ?_;refine ja (av (t:=bf) rfl ry rfl) ?_;refine aS rfl rfl rfl (ba rfl Bo Jx) trivial λb6=>?_;refine aq ?_;refine aM rfl rfl (aI rfl ry rfl rfl rfl) ⟨rfl,rfl,trivial⟩ ?_;refine nt (aJ (Z:=Unit) (α:=Bool) (λz8 x7=>[(0,Pt c),(2,.eq (.int .u8 a2)),(6,.at (.arr 7 Tr) r1),(16,Rs bf a0.2.2.2.2.2),(17,I (a0.2.2.2.2.2.length:Int)),(18,I y3),(44,.eq (.bool x7))]) (λz8 x7=>[.obj c 125 (aO a0 z_a0),.inv z_a0 (bN k a0)]) h (λK h=>?_) (λz8 x7 h=>?_))
  .refine co ?_;refine dm ?_;refine dm ?_;obtain⟨r9,D,h⟩:=aa h;refine db (ay [.tmp 23,.tmp 24] rfl rfl Jc rfl (gV k a2 y3 r9 D)) ?_;refine da (ii rfl) ?_;refine sc rfl rfl rfl (aV rfl) ⟨rfl,trivial⟩ (λhb=>?_) (λhb=>?_)
   .replace h:=eQ (BV hb) h;refine bZ rfl rfl rfl rfl rfl (aF rfl CN) ⟨rfl,rfl,trivial⟩ ?_;refine fu 0 rfl rfl rfl rfl rfl rfl (ax rfl cF ny rfl) ⟨rfl,rfl,trivial⟩ ?_;refine bZ rfl rfl rfl rfl rfl (aF rfl CO) ⟨rfl,rfl,trivial⟩ ?_;refine fu 0 rfl rfl rfl rfl rfl rfl (ax rfl cF ny rfl) ⟨rfl,rfl,trivial⟩ ?_;obtain⟨M,l,h⟩:=aa h;refine bZ rfl rfl rfl rfl rfl (cC (t:=Tr) rfl Kz jv l) ⟨rfl,rfl,rfl,trivial⟩ ?_;obtain⟨u,j,h⟩:=aa h;refine bZ rfl rfl rfl rfl rfl (cC (t:=Ti) rfl Db cF j) ⟨rfl,rfl,rfl,trivial⟩ ?_;refine bZ rfl rfl rfl rfl rfl (av (t:=Ti) rfl cF rfl) ⟨rfl,rfl,trivial⟩ ?_;refine bZ rfl rfl rfl rfl rfl (aV rfl) ⟨rfl,rfl,trivial⟩ ?_;refine bZ rfl rfl rfl rfl rfl (cO rfl) ⟨rfl,rfl,trivial⟩ ?_;refine bZ rfl rfl rfl rfl rfl (aF rfl ic) ⟨rfl,rfl,trivial⟩ ?_;refine bZ rfl rfl rfl rfl rfl (aF rfl yt) ⟨rfl,rfl,trivial⟩ ?_;refine fu 1 rfl rfl rfl rfl rfl rfl (ax rfl cF ny rfl) ⟨rfl,rfl,trivial⟩ ?_;refine bZ rfl rfl rfl rfl rfl (kG rfl) ⟨rfl,rfl,rfl,trivial⟩ ?_;refine bZ rfl rfl rfl rfl rfl (aF rfl I5) ⟨rfl,rfl,trivial⟩ ?_;refine fu 0 rfl rfl rfl rfl rfl rfl (ax rfl VE ny rfl) ⟨rfl,rfl,trivial⟩ ?_;refine df dz ?_;refine gb (H6 rfl U4) ?_;refine pt (nl ?_);exact jz ((), !decide ((decide (a0.2.2.1≤u))=x5.2.2)) h [1,2]
   .replace h:=c6 (uF hb) h;iterate 15 refine dg ?_
    refine df dz ?_;refine gn ?_;refine pf (nl ?_);exact jz ((),false) h [1,2]
  .refine cv h (λh=>?_) (λh=>?_)
   .refine ab (cz rfl (Ib rfl Qv QT) trivial ?_);refine ja (H8 rfl Qv) ?_;refine Gj rfl rfl rfl rfl ?_;refine A7 ?_;refine tu ?_;refine tu ?_;refine A7 ?_;refine bM (SE.fin (Γ':=[]) [0,1] trivial rfl) ?_;cases h;exact NS
   .refine bg (aL (tn (ab ?_)));obtain⟨s,e,h⟩:=aa h;refine jb (bp rfl e) ?_;refine mq (nl ?_);exact jz ((),s) h [0,1]
 .
  refine fD (bO (bO (c7 (ju ?_))));refine bM (SE.fin (Γ':=[]) [0,1] trivial rfl) ?_;cases h;exact aQ () [] 2 trivial rfl
def dn(k:Nat)(a0:ae)(a1:Int)(a2:Int):Option Bool:=gC k a0 a1 a2
theorem Oe:Qw Tryz.prog 156 (.agg #[]):=⟨⟨_,Qv⟩,λw=>by kernel_rfl⟩
theorem Je:∀(S:FS) (w:World),(A.rep (.arr 0 Ti) []).holds S w (.agg #[]):=λ_ _=>⟨[],⟨rfl,rfl⟩,rfl⟩
theorem N6:∀w,(zeroValue 156).run Tryz.prog w= .ok (.agg #[]) w:=λw=>by kernel_rfl
theorem OE:∀S w,(A.cells S w (.rep (.arr 0 Ti) []) (Value.cells (.agg #[])).toList):=λ_ _=>⟨rfl,rfl⟩
theorem Og:d5 Tryz.prog 156 0 true:=⟨λw=>by kernel_rfl,λw=>by kernel_rfl⟩
theorem SX:ag Tryz.prog 108:=ag.of Tryz.func108 (by kernel_rfl) (by kernel_rfl)
theorem Ot:ag Tryz.prog 109:=ag.of Tryz.func109 (by kernel_rfl) (by kernel_rfl)
theorem K1:d5 Tryz.prog 4 1 false:=⟨λw=>by kernel_rfl,λw=>by kernel_rfl⟩
theorem Ud:∀w,(zeroValue 4).run Tryz.prog w= .ok (.bool false) w:=λw=>by kernel_rfl
theorem Vp:∀S w,(A.cells S w (.eq (.bool false)) (Value.cells (.bool false)).toList):=λ_ _=>⟨rfl,rfl⟩
theorem AM:yQ Tryz.prog 108 (.iface 156 (.agg #[])) 4 (.bool false):=by
 refine⟨SX,λM e0=>?_,λM e0=>?_⟩
 .refine lW.of (M:=M) (m:=.returning) (m1:=.returning) (val:=.nilIface) Tryz.func108 rfl rfl (by decide) rfl rfl (by decide) (λρ=>rfl) (λfr b cs hb hm=>HF hb hm rfl) (.inl rfl) λb S w0=>?_;refine ja (Lu Je rfl Oe) ?_;refine mq ?_;refine xr ?_;refine xr ?_;refine aS rfl rfl rfl (ba rfl N6 OE) trivial λb1=>?_;refine aM rfl rfl (aI rfl Og rfl rfl rfl) ⟨rfl,rfl,trivial⟩ ?_;refine aq (nt (sr ?_));refine mq (nt ?_);refine ig rfl (λhb=>by cases hb) (λhb=>?_);refine bg (ju ?_);refine bM (SE.fin (Γ':=[]) [1] trivial rfl) ?_;exact aQ () [] 1 trivial rfl
 .refine lW.of (M:=M) (m:=.panicking (io (.iface 156 (.agg #[])) false)) (m1:=.panicking (io (.iface 156 (.agg #[])) true)) (val:=.iface 156 (.agg #[])) Tryz.func108 rfl rfl (by decide) rfl rfl (by decide) (λρ=>rfl) (λfr b cs hb hm=>HE hb hm) (.inr ⟨_,rfl⟩) λb S w0=>?_;refine ja (Lt Je rfl Oe) ?_;refine mq ?_;refine xr ?_;refine xr ?_;refine aS rfl rfl rfl (ba rfl N6 OE) trivial λb1=>?_;refine aM rfl rfl (aI rfl Og rfl rfl rfl) ⟨rfl,rfl,trivial⟩ ?_;refine aq (nt (sr ?_));refine mq (nt ?_);refine ig rfl (λhb=>?_) (λhb=>by cases hb);refine ab (fr 1 ?_);refine aM rfl rfl (aI rfl K1 rfl rfl rfl) ⟨rfl,rfl,trivial⟩ ?_;refine aH (ju ?_);refine bM (SE.fin (Γ':=[]) [0] trivial rfl) ?_;exact aQ () [] 1 trivial rfl
theorem om(k:Nat)(a0:ae)(c z_a0:Nat)(a1:Int)(a2:Int)(r:Bool)(h:dn k a0 a1 a2=some r):
 bP (dN Tryz.prog) 74 [Pt c,.eq (.int .u8 a1),.eq (.int .u8 a2)] (rf a0 c z_a0 k) (λ_:Unit=>(bD [.eq (.bool r)],rf a0 c z_a0 k)):=by
 have cr:=oV k a0 c z_a0 a1 a2 r h
 refine Bc 12 Tryz.func74 rfl Tryz.ntmps74 rfl λS w0=>?_
 refine sr ?_
 refine aS rfl rfl rfl (ba rfl Ud Vp) trivial λb6=>?_
 refine nt ?_
 refine sr ?_
 refine ja (oN [] [.tmp 6] [] [(Pv b6)] rfl rfl rfl) ?_
 refine JY rfl rfl rfl rfl rfl ?_
 refine nt ?_
 refine sr ?_
 iterate 3 refine mq ?_
 refine fr 2 ?_
 refine fr 2 ?_
 cases r with
 |false=>
  refine JZ (Ss:=[Pt c,.eq (.int .u8 a1),.eq (.int .u8 a2)]) (Δ:=rf a0 c z_a0 k) (F:=[.obj b6 4 (.eq (.bool false))]) [.tmp 8,.tmp 9,.tmp 10] rfl rfl rfl rfl Ot ⟨rfl,rfl,rfl,trivial⟩ cr ?_;refine tu ?_;refine bM (SE.fin (Γ':=[(6,_)]) [2,0,1] ⟨rfl,trivial⟩ rfl) ?_;refine Gm AM ?_;refine bM (SE.fin (Γ':=[(6,_)]) [1,2,0] ⟨rfl,trivial⟩ rfl) ?_;exact aQ () [.eq (.bool false)] 2 ⟨⟨_,_,_,_,_,rfl,(.tail _ (.tail _ (.head _))),K1,(λ_=>rfl),rfl⟩,trivial⟩ rfl
 |true=>
  refine aN (Δ:=rf a0 c z_a0 k) (F:=[.obj b6 4 (.eq (.bool false))]) (λ_ _ _=>ah rfl _) rfl rfl (aX [.tmp 8,.tmp 9,.tmp 10] rfl rfl Ot rfl cr.ok) ⟨rfl,rfl,rfl,trivial⟩ λ_=>?_;refine nt (sr (fr 2 ?_));refine aM rfl rfl (aI rfl K1 rfl rfl rfl) ⟨rfl,rfl,trivial⟩ ?_;refine nt (aA (NR AM ?_));refine bM (SE.fin (Γ':=[(6,_)]) [1,2,0] ⟨rfl,trivial⟩ rfl) ?_;exact aQ () [.eq (.bool true)] 2 ⟨⟨_,_,_,_,_,rfl,(.tail _ (.tail _ (.head _))),K1,(λ_=>rfl),rfl⟩,trivial⟩ rfl
def cu(k:Nat)(a0:ae)(a1:Int):Option (List Int):=
 (j8 k (lx (λ(y5:(List Int)) (p7:Int)=>
  (dn k a0 p7 a1).bind λr9=>
  if r9=true then((cM (bQ (length y5+length [p7]))).bind λ_=>
  some (y5++[p7],true)) else(some (y5,true)))) a0.1 (([]:(List Int)),false)).bind λr8=>
 if r8.2=true then(none) else(some r8.1)
theorem il(k:Nat)(a0:ae)(c z_a0:Nat)(a1:Int)(r:(List Int))(h:cu k a0 a1=some r):
 bP (dN Tryz.prog) 38 [Pt c,.eq (.int .u8 a1)] [.obj c 125 (aO a0 z_a0),.inv z_a0 (bN k a0)] (λ_:Unit=>(bD [.rep (.slice (.int .u8)) r],[.obj c 125 (aO a0 z_a0),.inv z_a0 (bN k a0)])):=by
 unfold cu at h
 replace h:=be h
 refine vD 23 Tryz.func38 rfl Tryz.ntmps38 rfl λS w0=>?_
 refine sr ?_
 refine bx λb1=>?_
 refine bx λb2=>?_
 refine cq ?_
 refine nt ?_
 refine sr ?_
 refine aS rfl rfl rfl (ba rfl KD Nr) trivial λb3=>?_
 refine nt ?_
 refine aj ?_
 refine sr ?_
 refine fr 2 ?_
 refine lo BE ?_
 refine ja (cO rfl) ?_
 refine fl ic ?_
 refine fl im ?_
 refine fr 3 ?_
 refine lo cF ?_
 refine aS rfl rfl rfl (ay [.tmp 11] rfl rfl SA rfl (rN a0.1)) ⟨rfl,trivial⟩ λb4=>?_
 refine nt ?_
 refine ai ?_
 refine ik (SE.nil 73 (.int .u8)) ?_
 refine cj 6 rfl ?_
 refine cj 6 rfl ?_
 refine cj 2 rfl ?_
 refine cj 6 rfl ?_
 refine cj 6 rfl ?_
 refine cj 6 rfl ?_
 refine cj 6 rfl ?_
 obtain⟨r8,s,h⟩:=aa h
 refine nV (Δ:=[.obj b4 3 (I a0.1),.obj c 125 (aO a0 z_a0),.obj b1 72 (Pt c),.obj b3 76 (.eq (.slice none 0 0)),.sl (.slice none 0 0) 73 (.int .u8) ([]:(List Int)),.obj b2 73 (.eq (.int .u8 a1)),.inv z_a0 (bN k a0)]) (F:=[]) (X:=Value) (J:=λ_=>MF r8.2) (E:=λz6=>[.obj b4 3 (I a0.1),.obj c 125 (aO a0 z_a0),.obj b1 72 (Pt c),.obj b3 76 (.eq z6),.sl z6 73 (.int .u8) r8.1,.obj b2 73 (.eq (.int .u8 a1)),.inv z_a0 (bN k a0)]) (r0:=λ_=>.tup .any) rfl rfl Ov (λrec hp ha hb hs hpe hN hv l=>?_) (λdl z6=>qj (λhj=>?_) (λhj=>?_))
 .
  rcases rec with⟨st0,pe0,fn0,tm0,ps0,as0,bd0,df0⟩;dsimp only at hp ha hb hs hpe hN hv;subst hp hs hpe;have vN:yK tm0 [(2,Pt b1),(3,Pt b2),(5,Pt b3)]:=⟨congrArg A.eq (hv 2 _ rfl).symm,congrArg A.eq (hv 3 _ rfl).symm,congrArg A.eq (hv 5 _ rfl).symm,trivial⟩;refine bP.pick (M:=(dN Tryz.prog)) [1,0,2,3,4,5,6,7] [1,0,2,3,4,5,6,7] (oW (λ(z6:Value) (q:(List Int)×Bool)=>[.raw l (.loop (jd ⟨.ready,none,fn0,tm0, #[13],as0,bd0,df0⟩ (MF q.2))),.obj c 125 (aO a0 z_a0),.obj b1 72 (Pt c),.obj b3 76 (.eq z6),.sl z6 73 (.int .u8) q.1,.obj b2 73 (.eq (.int .u8 a1)),.inv z_a0 (bN k a0)]) l (lx (λ(y5:(List Int)) (p7:Int)=>
  (dn k a0 p7 a1).bind λr9=>
  if r9=true then((cM (bQ (length y5+length [p7]))).bind λ_=>
  some (y5++[p7],true)) else(some (y5,true)))) k a0.1 b4 (λz6 q p r' h=>?_) (.slice none 0 0) (([]:(List Int)),false) r8 s) rfl (λ_=>rfl) (λ_=>rfl)
  obtain⟨rq,hq,h2,rfl⟩:=ql h;obtain⟨y5,b5⟩:=q;obtain rfl:b5=false:=hq;replace h:=be h2;obtain⟨p7,hpv⟩:∃x,x=p:=⟨_,rfl⟩;subst hpv;refine YT.pick (R':=(λz6:Value=>(.eq (.bool rq.2),[.raw l (.loop (jd ⟨.ready,none,fn0,tm0, #[13],as0,bd0,df0⟩ (MF (!rq.2)))),.obj c 125 (aO a0 z_a0),.obj b1 72 (Pt c),.obj b3 76 (.eq z6),.sl z6 73 (.int .u8) rq.1,.obj b2 73 (.eq (.int .u8 a1)),.inv z_a0 (bN k a0)]))) [0,1,2,3,4,5,6] [0,1,2,3,4,5,6] (C9 ha hb (N:=23) (Γ:=[(2,Pt b1),(3,Pt b2),(5,Pt b3)]) rfl hN (by decide) vN (λS w=>?_)) rfl (λ_=>rfl) (λ_=>rfl);refine ab (aq (nl ?_));refine vA rfl rfl ?_;refine ai (sr (fr 2 ?_));refine lo BE ?_;refine mq ?_;refine fr 5 ?_;refine lo qi ?_;obtain⟨r9,n,h⟩:=aa h;refine fr 6 ?_;refine fr 4 ?_;refine aN (Δ:=[_,_]) (F:=_) (λ_ _ _=>ah rfl _) rfl rfl (aX [.tmp 14,.tmp 15,.tmp 16] rfl rfl UV rfl (om k a0 c z_a0 p7 a1 r9 n)) ⟨rfl,rfl,rfl,trivial⟩ λ_=>?_;refine nt (cv h (λh=>?_) (λh=>?_))
  .refine ab (fr 5 ?_);refine lo xC ?_;refine mq ?_;refine ja (bj (t:=(.int .u8)) [(.tmp 19,_)] [p7] rfl rfl Ld (.cons rfl .int .nil) rfl rfl) ?_;obtain⟨u,e,h⟩:=aa h;refine fr 6 ?_;refine dS rfl rfl rfl (cg rfl rfl Ld (am e)) ⟨rfl,rfl,trivial⟩ λj=>?_;refine qW λo12=>?_;refine fr 1 ?_;refine aM rfl rfl (aI rfl xC o12 rfl rfl) ⟨rfl,rfl,trivial⟩ ?_;refine aH (aL (aC 3 rfl ?_));refine aC 4 rfl ?_;refine aC 3 rfl ?_;refine aC 3 rfl ?_;refine aC 5 rfl ?_;refine aC 5 rfl ?_;refine aC 6 rfl ?_;cases h;exact lj j 6 rfl
  .refine bg (aL (aC 1 rfl ?_));refine aC 2 rfl ?_;refine aC 6 rfl ?_;refine aC 6 rfl ?_;refine aC 5 rfl ?_;refine aC 5 rfl ?_;refine aC 6 rfl ?_;cases h;exact lj z6 6 rfl
 .
  replace h:=c6 (KU hj) h;refine aL (tn (sr (fr 4 ?_)));refine lo xC ?_;refine aq (nt (aA ?_));refine aC 5 rfl ?_;refine bM (nT (off:=0) [4,22] ⟨rfl,rfl,trivial⟩ rfl rfl) ?_;refine aC 1 rfl ?_;refine EJ ?_;refine bM (SE.fin (Γ':=[(4,_)]) [2,5,0,1,3,4] ⟨rfl,trivial⟩ rfl) ?_;cases h;exact aQ () [_] 2 ⟨rfl,trivial⟩ rfl
 .
  replace h:=eQ (KT hj) h;cases h
def jP(k:Nat)(r7:(List Int)):Nat->((List (List Int))×Int)->Option (List (List Int))
 |0,_=>none
 |n+1,y8=>
  if y8.2 < (r7.length:Int) then((aR r7 y8.2).bind λh=>
  (ji k h).bind λc=>
  (cM (bQ (length y8.1+length [c]))).bind λ_=>
  (ck (y8.2+1)).bind λe=>
  jP k r7 n (y8.1++[c],e)) else(some y8.1)
def qK(k:Nat)(a0:ae):Option ((List (List Int))×Int):=
 (jj k a0 ([]:(List Int)) ([]:(List Int)) ([]:(List Int)) ([]:(List Int))).bind λr2=>
 f9 r2.1 (if¬(r2.2.2=0) then(some (([]:(List (List Int))),r2.2.2)) else(none)) (λq3=>if¬(r2.2.2=0) then(some (([]:(List (List Int))),r2.2.2)) else((((cu k q3 0).bind λr7=>
 jP k r7 k (([]:(List (List Int))),0)):Option ((List (List Int)))).bind λx5=>
 some (x5,0)))
theorem wa(k:Nat)(a0:ae)(r:(List (List Int))×Int)(h:qK k a0=some r):
 bP (dN Tryz.prog) 11 [.rep au a0] [] (λ_:Unit=>(bD [.rep (.slice Tl) r.1,I r.2],[])):=by
 unfold qK at h
 replace h:=be h
 refine bP.of 33 Tryz.func11 rfl Tryz.ntmps11 rfl λS w0=>?_
 refine sr ?_
 refine bx λb1=>?_
 refine cq ?_
 refine cq ?_
 refine nt ?_
 refine sr ?_
 refine lo iM ?_
 obtain⟨r2,M,h⟩:=aa h
 have c:=jZ k a0 ([]:(List Int)) ([]:(List Int)) ([]:(List Int)) ([]:(List Int)) r2 M
 rcases hr:r2.1 with _ |q3
 .
  rw [hr] at h c;replace h:=ve h;refine aN (Δ:=[]) (F:=_) (λ_ _ _=>ah rfl _) rfl rfl (bV (N:=[(.tmp 11,.rep au a0),(.const (.slice none 0 0),.eq (.slice none 0 0)),(.const (.slice none 0 0),.eq (.slice none 0 0)),(.const (.slice none 0 0),.eq (.slice none 0 0)),(.const (.slice none 0 0),.eq (.slice none 0 0))]) (aX [.tmp 11,.const (.slice none 0 0),.const (.slice none 0 0),.const (.slice none 0 0),.const (.slice none 0 0)] rfl rfl wi rfl c) λ_ _ _ hn=>⟨hn.1,(aD (t:=Tl) (x:=([]:(List Int))) .nil rfl rfl hn.2.1),(aD (t:=Tl) (x:=([]:(List Int))) .nil rfl rfl hn.2.2.1),(aD (t:=Tl) (x:=([]:(List Int))) .nil rfl rfl hn.2.2.2.1),(aD (t:=Tl) (x:=([]:(List Int))) .nil rfl rfl hn.2.2.2.2.1),trivial⟩) ⟨rfl,rfl,rfl,rfl,rfl,trivial⟩ λ_=>?_;refine mq ?_;refine xr ?_;refine xr ?_;refine xr ?_;refine aq ?_;refine aq ?_;refine aq (nt (aj (sr ?_)));refine mq ?_;refine jb (fB rfl) ?_;refine nt (cn h (λh=>?_) (λh=>?_))
  .refine sr (mq ?_);refine cq ?_;refine aq (nt (rx ?_));refine bM (fA (t:=(.slice Tl)) (x:=([]:(List (List Int)))) 2 rfl .nil rfl rfl) ?_;cases h;exact rb
  .cases h
 .
  rw [hr] at h c;replace h:=vd h;refine aN (Δ:=[]) (F:=_) (λ_ _ _=>ah rfl _) rfl rfl (bV (N:=[(.tmp 11,.rep au a0),(.const (.slice none 0 0),.eq (.slice none 0 0)),(.const (.slice none 0 0),.eq (.slice none 0 0)),(.const (.slice none 0 0),.eq (.slice none 0 0)),(.const (.slice none 0 0),.eq (.slice none 0 0))]) (aX [.tmp 11,.const (.slice none 0 0),.const (.slice none 0 0),.const (.slice none 0 0),.const (.slice none 0 0)] rfl rfl wi rfl c) λ_ _ _ hn=>⟨hn.1,(aD (t:=Tl) (x:=([]:(List Int))) .nil rfl rfl hn.2.1),(aD (t:=Tl) (x:=([]:(List Int))) .nil rfl rfl hn.2.2.1),(aD (t:=Tl) (x:=([]:(List Int))) .nil rfl rfl hn.2.2.2.1),(aD (t:=Tl) (x:=([]:(List Int))) .nil rfl rfl hn.2.2.2.2.1),trivial⟩) ⟨rfl,rfl,rfl,rfl,rfl,trivial⟩ λz4=>?_;refine mq ?_;refine xr ?_;refine xr ?_;refine xr ?_;refine aq ?_;refine aq ?_;refine aq (nt (aj (sr ?_)));refine mq ?_;refine jb (fB rfl) ?_;refine nt (cn h (λh=>?_) (λh=>?_))
  .refine sr (mq ?_);refine cq ?_;refine aq (nt (rx ?_));refine bM (fA (t:=(.slice Tl)) (x:=([]:(List (List Int)))) 2 rfl .nil rfl rfl) ?_;cases h;exact rb
  .refine sk (sr (cq (nt ?_)));refine aJ (Z:=Value) (α:=(List (List Int))) (λz6 x5=>[(7,.eq z6)]) (λz6 x5=>[.sl z6 22 Tl x5,.inv z4.2 (bN k q3)]) h (λK h=>?_) (λz6 x5 h=>?_)
   .refine sr (mq ?_);obtain⟨r7,J,h⟩:=aa h;refine fr 1 ?_;refine fr 1 ?_;refine aN (Δ:=[_,_]) (F:=_) (λ_ _ _=>ah rfl _) rfl rfl (aX [.tmp 19,.const (.int .u8 (0))] rfl rfl P8 rfl (il k q3 z4.1 z4.2 0 r7 J)) ⟨rfl,rfl,trivial⟩ λ_=>?_;refine ol A1 ?_;refine fq rfl ?_;refine nt (ai (ik (SE.nil 22 Tl) ?_));refine aG (λz9 y8=>[(7,.eq z9),(20,.rep (.slice (.int .u8)) r7),(21,I (r7.length:Int)),(22,I y8.2)]) (λz9 y8=>[.sl z9 22 Tl y8.1,.inv z4.2 (bN k q3)]) (jP k r7) k (.slice none 0 0) (([]:(List (List Int))),0) (λ_=>rfl) h (SE.fin [0,2] ⟨rfl,rfl,rfl,rfl,trivial⟩ rfl) (λn z9 y8 h=>?_);unfold jP at h;refine sr (jb (bA rfl) ?_);refine nt (aj (ci h (λh=>?_) (λh=>?_)))
    .refine sk (aj (ai (sr ?_)));obtain⟨D,l,h⟩:=aa h;refine jb (aW (t:=(.int .u8)) rfl A1 qi l) ?_;refine ja (av (t:=(.int .u8)) rfl qi rfl) ?_;refine aq (nt (ab ?_));iterate 2 refine mq ?_
     obtain⟨e,u,h⟩:=aa h;refine ja (ay [.tmp 27] rfl rfl P7 rfl (kC k D e u)) ?_;refine ja (bj (t:=Tl) [(.tmp 28,_)] [e] rfl rfl l7 (.cons rfl .rep .nil) rfl rfl) ?_;obtain⟨O,s,h⟩:=aa h;refine dS rfl rfl rfl (cg rfl rfl l7 (am s)) ⟨rfl,rfl,trivial⟩ λE=>?_;refine aq (aH (aL (tn (ab ?_))));obtain⟨y,j,h⟩:=aa h;refine jb (bp rfl j) ?_;refine mq (nl ?_);exact jz (E,(y8.1++[e],y)) h [0,1]
    .refine xa ?_;exact jz (z9,y8.1) h [0,1]
   .refine sr (mq ?_);refine aq ?_;refine cq (nt (aA ?_));refine bM (ip [2,7,32] ⟨rfl,rfl,rfl,trivial⟩) ?_;cases h;exact rb
def eE(k:Nat)(a0:ae)(r5:(List (List Int)))(x9:Int):Nat->((List (List Int))×Int)->Option (List (List Int))
 |0,_=>none
 |n+1,c=>
  if c.2 < x9 then((aR r5 c.2).bind λj=>
  (cM (0≤a0.1/\a0.1≤5)).bind λ_=>
  (dA k (List.take (Int.toNat a0.1) j)).bind λe=>
  (cM (bQ (length c.1+length [e]))).bind λ_=>
  (ck (c.2+1)).bind λh=>
  eE k a0 r5 x9 n (c.1++[e],h)) else(some c.1)
def iP(k:Nat)(a0:ae)(a1:(List Int)):Option ((List (List Int))×Int):=
 (jj k a0 a1 ([]:(List Int)) ([]:(List Int)) ([]:(List Int))).bind λr2=>
 f9 r2.1 (if¬(r2.2.2=0) then(some (([]:(List (List Int))),r2.2.2)) else(none)) (λq3=>if¬(r2.2.2=0) then(some (([]:(List (List Int))),r2.2.2)) else((ma k q3 r2.2.1).bind λr5=>
 (((ck ((a0.2.2.2.2.1.length:Int)+1)).bind λx9=>
 eE k a0 r5 x9 k (([]:(List (List Int))),0)):Option ((List (List Int)))).bind λx7=>
 some (x7,0)))
theorem pZ(k:Nat)(a0:ae)(a1:(List Int))(r:(List (List Int))×Int)(h:iP k a0 a1=some r):
 bP (dN Tryz.prog) 12 [.rep au a0,.rep Tl a1] [] (λ_:Unit=>(bD [.rep (.slice Tl) r.1,I r.2],[])):=by
 unfold iP at h
 replace h:=be h
 refine bP.of 43 Tryz.func12 rfl Tryz.ntmps12 rfl λS w0=>?_
 refine sr ?_
 refine bx λb1=>?_
 refine cq ?_
 refine cq ?_
 refine nt ?_
 refine sr ?_
 refine lo iM ?_
 refine mq ?_
 obtain⟨r2,X,h⟩:=aa h
 have j:=jZ k a0 a1 ([]:(List Int)) ([]:(List Int)) ([]:(List Int)) r2 X
 rcases hr:r2.1 with _ |q3
 .
  rw [hr] at h j;replace h:=ve h;refine aN (Δ:=[]) (F:=_) (λ_ _ _=>ah rfl _) rfl rfl (bV (N:=[(.tmp 13,.rep au a0),(.tmp 14,.rep Tl a1),(.const (.slice none 0 0),.eq (.slice none 0 0)),(.const (.slice none 0 0),.eq (.slice none 0 0)),(.const (.slice none 0 0),.eq (.slice none 0 0))]) (aX [.tmp 13,.tmp 14,.const (.slice none 0 0),.const (.slice none 0 0),.const (.slice none 0 0)] rfl rfl wi rfl j) λ_ _ _ hn=>⟨hn.1,hn.2.1,(aD (t:=Tl) (x:=([]:(List Int))) .nil rfl rfl hn.2.2.1),(aD (t:=Tl) (x:=([]:(List Int))) .nil rfl rfl hn.2.2.2.1),(aD (t:=Tl) (x:=([]:(List Int))) .nil rfl rfl hn.2.2.2.2.1),trivial⟩) ⟨rfl,rfl,rfl,rfl,rfl,trivial⟩ λ_=>?_;refine mq ?_;refine xr ?_;refine xr ?_;refine xr ?_;refine aq ?_;refine aq ?_;refine aq (nt (aj (sr ?_)));refine mq ?_;refine jb (fB rfl) ?_;refine nt (cn h (λh=>?_) (λh=>?_))
  .refine sr (mq ?_);refine cq ?_;refine aq (nt (rx ?_));refine bM (fA (t:=(.slice Tl)) (x:=([]:(List (List Int)))) 4 rfl .nil rfl rfl) ?_;cases h;exact rb
  .cases h
 .
  rw [hr] at h j;replace h:=vd h;refine aN (Δ:=[]) (F:=_) (λ_ _ _=>ah rfl _) rfl rfl (bV (N:=[(.tmp 13,.rep au a0),(.tmp 14,.rep Tl a1),(.const (.slice none 0 0),.eq (.slice none 0 0)),(.const (.slice none 0 0),.eq (.slice none 0 0)),(.const (.slice none 0 0),.eq (.slice none 0 0))]) (aX [.tmp 13,.tmp 14,.const (.slice none 0 0),.const (.slice none 0 0),.const (.slice none 0 0)] rfl rfl wi rfl j) λ_ _ _ hn=>⟨hn.1,hn.2.1,(aD (t:=Tl) (x:=([]:(List Int))) .nil rfl rfl hn.2.2.1),(aD (t:=Tl) (x:=([]:(List Int))) .nil rfl rfl hn.2.2.2.1),(aD (t:=Tl) (x:=([]:(List Int))) .nil rfl rfl hn.2.2.2.2.1),trivial⟩) ⟨rfl,rfl,rfl,rfl,rfl,trivial⟩ λz4=>?_;refine mq ?_;refine xr ?_;refine xr ?_;refine xr ?_;refine aq ?_;refine aq ?_;refine aq (nt (aj (sr ?_)));refine mq ?_;refine jb (fB rfl) ?_;refine nt (cn h (λh=>?_) (λh=>?_))
  .refine sr (mq ?_);refine cq ?_;refine aq (nt (rx ?_));refine bM (fA (t:=(.slice Tl)) (x:=([]:(List (List Int)))) 4 rfl .nil rfl rfl) ?_;cases h;exact rb
  .refine sk (sr (cq (nt (sr ?_))));iterate 2 refine mq ?_
   obtain⟨r5,U,h⟩:=aa h;refine fr 1 ?_;refine fr 1 ?_;refine aN (Δ:=[_,_]) (F:=_) (λ_ _ _=>ah rfl _) rfl rfl (aX [.tmp 22,.tmp 23] rfl rfl FI rfl (pH k q3 z4.1 z4.2 r2.2.1 r5 U)) ⟨rfl,rfl,trivial⟩ λ_=>?_;refine aS rfl rfl rfl (ba rfl GA Jw) trivial λb6=>?_;refine aM rfl rfl (aI rfl Hj rfl rfl rfl) ⟨rfl,rfl,trivial⟩ ?_;refine d4 (jI (t:=(.arr 7 Tr)) (x:=r5) [10] .rep ⟨rfl,trivial⟩) ?_;refine nt (aJ (Z:=Value) (α:=(List (List Int))) (λz8 x7=>[(9,.eq z8)]) (λz8 x7=>[.sl z8 22 Tl x7,.inv z4.2 (bN k q3)]) h (λK h=>?_) (λz8 x7 h=>?_))
   .refine sr (fl eO ?_);refine fr 2 ?_;refine lo lZ ?_;refine ol Bn ?_;obtain⟨x9,Q,h⟩:=aa h;refine jb (bp rfl Q) ?_;refine fq rfl ?_;refine nt (ai (ik (SE.nil 22 Tl) ?_));refine aG (λe c=>[(2,Pt b1),(9,.eq e),(10,.at (.arr 7 Tr) r5),(28,I x9),(29,I c.2)]) (λe c=>[.obj b1 26 (.rep au a0),.sl e 22 Tl c.1,.inv z4.2 (bN k q3)]) (eE k a0 r5 x9) k (.slice none 0 0) (([]:(List (List Int))),0) (λ_=>rfl) h (SE.fin [1,0,3] ⟨rfl,rfl,rfl,rfl,rfl,trivial⟩ rfl) (λn e c h=>?_);unfold eE at h;refine sr (jb (bA rfl) ?_);refine nt (aj (ci h (λh=>?_) (λh=>?_)))
    .refine sk (aj (ai (sr (mq ?_))));refine aq (nt ?_);refine co ?_;refine dm ?_;refine dm ?_;obtain⟨M,y,h⟩:=aa h;refine db (cC (t:=Tr) rfl Kz jv y) ?_;refine da (aF rfl im) ?_;refine ea 0 (ax rfl cF ny rfl) ?_;obtain⟨gw,l,h⟩:=aa h;refine db (vQ (t:=Ti) rfl Db cF (am l).1 (am l).2) ?_;obtain⟨s,E,h⟩:=aa h;refine da (yL (ay [.tmp 37] rfl rfl SH rfl (mZ k (List.take (Int.toNat a0.1) M) s E))) ?_;refine da (bj (t:=Tl) [(.tmp 38,_)] [s] rfl rfl l7 (.cons rfl .rep .nil) rfl rfl) ?_;refine df dz ?_;obtain⟨Y,D,h⟩:=aa h;refine fr 1 ?_;refine dS rfl rfl rfl (cg rfl rfl l7 (am D)) ⟨rfl,rfl,trivial⟩ λO=>?_;refine aq (aH (aL (tn (ab ?_))));obtain⟨J,u,h⟩:=aa h;refine jb (bp rfl u) ?_;refine mq (nl ?_);exact jz (O,(c.1++[s],J)) h [1,0,2]
    .refine xa ?_;exact jz (e,c.1) h [1,2]
   .refine sr (mq ?_);refine aq ?_;refine cq (nt (aA ?_));refine bM (ip [4,9,42] ⟨rfl,rfl,rfl,trivial⟩) ?_;cases h;exact rb
def ng(k:Nat)(a0:ae)(a1:(List Int))(a2:(List Int))(a3:(List Int)):Option ((Option ae)×(List Int)×Int):=
 (jj k a0 ([]:(List Int)) a1 a2 a3).bind λr2=>
 f9 r2.1 (if¬(r2.2.2=0) then(some (none,([]:(List Int)),r2.2.2)) else(none)) (λq3=>if¬(r2.2.2=0) then(some (none,([]:(List Int)),r2.2.2)) else((cu k q3 0).bind λr5=>
 if(r5.length:Int)=0 then(some (none,([]:(List Int)),9)) else(some (some q3,r5,0))))
theorem nF(k:Nat)(a0:ae)(a1:(List Int))(a2:(List Int))(a3:(List Int))(r:(Option ae)×(List Int)×Int)(h:ng k a0 a1 a2 a3=some r):
 bP (dN Tryz.prog) 42 [.rep au a0,.rep Tl a1,.rep Tl a2,.rep Tl a3] [] (λz:Nat×Nat=>(bD [Ls r.1 z.1,.rep (.slice (.int .u8)) r.2.1,I r.2.2],Lr r.1 λq=>rf q z.1 z.2 k)):=by
 unfold ng at h
 replace h:=be h
 refine bP.of 34 Tryz.func42 rfl Tryz.ntmps42 rfl λS w0=>?_
 refine sr ?_
 refine bx λb1=>?_
 refine cq ?_
 refine cq ?_
 refine cq ?_
 refine nt ?_
 refine sr ?_
 refine lo iM ?_
 iterate 3 refine mq ?_
 obtain⟨r2,j,h⟩:=aa h
 have c:=jZ k a0 ([]:(List Int)) a1 a2 a3 r2 j
 rcases hr:r2.1 with _ |q3
 .
  rw [hr] at h c;replace h:=ve h;refine aN (Δ:=[]) (F:=_) (λ_ _ _=>ah rfl _) rfl rfl (bV (N:=[(.tmp 16,.rep au a0),(.const (.slice none 0 0),.eq (.slice none 0 0)),(.tmp 17,.rep Tl a1),(.tmp 18,.rep Tl a2),(.tmp 19,.rep Tl a3)]) (aX [.tmp 16,.const (.slice none 0 0),.tmp 17,.tmp 18,.tmp 19] rfl rfl wi rfl c) λ_ _ _ hn=>⟨hn.1,(aD (t:=Tl) (x:=([]:(List Int))) .nil rfl rfl hn.2.1),hn.2.2.1,hn.2.2.2.1,hn.2.2.2.2.1,trivial⟩) ⟨rfl,rfl,rfl,rfl,rfl,trivial⟩ λ_=>?_;refine mq ?_;refine xr ?_;refine xr ?_;refine xr ?_;refine aq ?_;refine aq ?_;refine aq (nt (aj (sr ?_)));refine mq ?_;refine jb (fB rfl) ?_;refine nt (cn h (λh=>?_) (λh=>?_))
  .refine sr (mq ?_);refine cq ?_;refine cq ?_;refine aq (nt (rx ?_));refine bM (fA (t:=(.slice (.int .u8))) (x:=([]:(List Int))) 9 rfl .nil rfl rfl) ?_;cases h;exact aQ (0,0) [.eq (.pointer none),_,_] 0 ⟨rfl,rfl,rfl,trivial⟩ rfl
  .cases h
 .
  rw [hr] at h c;replace h:=vd h;refine aN (Δ:=[]) (F:=_) (λ_ _ _=>ah rfl _) rfl rfl (bV (N:=[(.tmp 16,.rep au a0),(.const (.slice none 0 0),.eq (.slice none 0 0)),(.tmp 17,.rep Tl a1),(.tmp 18,.rep Tl a2),(.tmp 19,.rep Tl a3)]) (aX [.tmp 16,.const (.slice none 0 0),.tmp 17,.tmp 18,.tmp 19] rfl rfl wi rfl c) λ_ _ _ hn=>⟨hn.1,(aD (t:=Tl) (x:=([]:(List Int))) .nil rfl rfl hn.2.1),hn.2.2.1,hn.2.2.2.1,hn.2.2.2.2.1,trivial⟩) ⟨rfl,rfl,rfl,rfl,rfl,trivial⟩ λz4=>?_;refine mq ?_;refine xr ?_;refine xr ?_;refine xr ?_;refine aq ?_;refine aq ?_;refine aq (nt (aj (sr ?_)));refine mq ?_;refine jb (fB rfl) ?_;refine nt (cn h (λh=>?_) (λh=>?_))
  .refine sr (mq ?_);refine cq ?_;refine cq ?_;refine aq (nt (rx ?_));refine bM (fA (t:=(.slice (.int .u8))) (x:=([]:(List Int))) 9 rfl .nil rfl rfl) ?_;cases h;exact aQ (0,0) [.eq (.pointer none),_,_] 0 ⟨rfl,rfl,rfl,trivial⟩ rfl
  .refine sk (sr (mq ?_));obtain⟨r5,e,h⟩:=aa h;refine fr 1 ?_;refine fr 1 ?_;refine aN (Δ:=[_,_]) (F:=_) (λ_ _ _=>ah rfl _) rfl rfl (aX [.tmp 27,.const (.int .u8 (0))] rfl rfl P8 rfl (il k q3 z4.1 z4.2 0 r5 e)) ⟨rfl,rfl,trivial⟩ λ_=>?_;refine aq (nt (aj (sr ?_)));refine mq ?_;refine ol A1 ?_;refine jb (jg rfl) ?_;refine nt (ci h (λh=>?_) (λh=>?_))
   .refine sr (cq ?_);refine cq ?_;refine cq (nt (rx ?_));refine bM (fA (t:=(.slice (.int .u8))) (x:=([]:(List Int))) 9 rfl .nil rfl rfl) ?_;cases h;exact aQ (0,0) [.eq (.pointer none),_,_] 0 ⟨rfl,rfl,rfl,trivial⟩ rfl
   .refine sk (sr ?_);iterate 2 refine mq ?_
    refine aq ?_;refine aq ?_;refine cq (nt (aA ?_));cases h;exact aQ (z4.1,z4.2) [.eq (.pointer (some ⟨z4.1,0,none⟩)),_,_] 2 ⟨rfl,rfl,rfl,trivial⟩ rfl
def f7(k:Nat)(a2:Int)(r1:(List (List Int)))(x5:Int):Nat->Int->Option (Except Int Unit)
 |0,_=>none
 |n+1,y6=>
  if y6 < x5 then((aR r1 y6).bind λx8=>
  (aR x8 a2).bind λx9=>
  if 0≤x9 then(some (.error y6)) else((ck (y6+1)).bind λc=>
  f7 k a2 r1 x5 n c)) else(some (.ok ()))
def iI(k:Nat)(a0:ae)(a1:Int)(a2:Int):Option Int:=
 (ma k a0 a1).bind λr1=>
 bE (α:=Unit) ((ck ((a0.2.2.2.2.1.length:Int)+1)).bind λx5=>
 f7 k a2 r1 x5 k 0) (some) λ_=>
 some (-1:Int)
theorem lG(k:Nat)(a0:ae)(c z_a0:Nat)(a1:Int)(a2:Int)(r:Int)(h:iI k a0 a1 a2=some r):
 bP (dN Tryz.prog) 44 [Pt c,.eq (.int .u8 a1),I a2] [.obj c 125 (aO a0 z_a0),.inv z_a0 (bN k a0)] (λ_:Unit=>(bD [I r],[.obj c 125 (aO a0 z_a0),.inv z_a0 (bN k a0)])):=by
 unfold iI at h
 replace h:=be h
 refine bP.of 30 Tryz.func44 rfl Tryz.ntmps44 rfl λS w0=>?_
 refine sr ?_
 refine cq ?_
 refine nt ?_
 refine sr ?_
 iterate 2 refine mq ?_
 obtain⟨r1,D,h⟩:=aa h
 have E:=pH k a0 c z_a0 a1 r1 D
 refine fr 1 ?_
 refine fr 1 ?_
 refine aN (Δ:=[_,_]) (F:=_) (λ_ _ _=>ah rfl _) rfl rfl (aX [.tmp 9,.tmp 10] rfl rfl FI rfl E) ⟨rfl,rfl,trivial⟩ λ_=>?_
 refine aS rfl rfl rfl (ba rfl GA Jw) trivial λb2=>?_
 refine aM rfl rfl (aI rfl Hj rfl rfl rfl) ⟨rfl,rfl,trivial⟩ ?_
 refine d4 (jI (t:=(.arr 7 Tr)) (x:=r1) [7] .rep ⟨rfl,trivial⟩) ?_
 refine nt ?_
 refine dk (Z:=Unit) (α:=Unit) (λz4 x3=>[]) (λz4 x3=>[.obj c 125 (aO a0 z_a0),.inv z_a0 (bN k a0)]) (λe=>e=r) h (λe h=>Option.some.inj h) (λK hR h=>?_) (λz4 x3 h=>?_)
 .
  refine sr (mq ?_);refine ja (cO rfl) ?_;refine fl ic ?_;refine fl eO ?_;refine lo lZ ?_;refine ol Bn ?_;obtain⟨x5,y,h⟩:=aa h;refine jb (bp rfl y) ?_;refine fq rfl ?_;refine nt (ai (aG (λz7 y6=>[(2,I a2),(7,.at (.arr 7 Tr) r1),(18,I x5),(19,I y6)]) (λz7 y6=>[.obj c 125 (aO a0 z_a0),.inv z_a0 (bN k a0)]) (f7 k a2 r1 x5) k () 0 (λ_=>rfl) h (SE.fin [0,1] ⟨rfl,rfl,rfl,rfl,trivial⟩ rfl) (λn z7 y6 h=>?_)));unfold f7 at h;refine sr (jb (bA rfl) ?_);refine nt (aj (ci h (λh=>?_) (λh=>?_)))
  .refine sk (aj (ai (sr (mq ?_))));refine aq (nt (sr ?_));iterate 2 refine mq ?_
   obtain⟨x8,u,h⟩:=aa h;refine jb (cC (t:=Tr) rfl Kz jv u) ?_;obtain⟨x9,s,h⟩:=aa h;refine jb (cC (t:=Ti) rfl Db cF s) ?_;refine ja (av (t:=Ti) rfl cF rfl) ?_;refine jb (kG rfl) ?_;refine nt (ci h (λh=>?_) (λh=>?_))
   .refine sr (mq ?_);refine aq (nt (aA (br (bh (bo ?_)))));obtain rfl:=hR _ h;exact aQ () [_] 2 ⟨rfl,trivial⟩ rfl
   .refine bg (aL (tn (ab ?_)));obtain⟨l,j,h⟩:=aa h;refine jb (bp rfl j) ?_;refine mq (nl ?_);exact jz ((),l) h [0,1]
  .refine xa ?_;exact jz ((),()) h [0,1]
 .
  refine sr (cq (nt (aA ?_)));cases h;exact aQ () [_] 2 ⟨rfl,trivial⟩ rfl
def kQ(k:Nat)(a1:Int)(r3:(Option ae)×(List Int)×Int)(q4:ae):Nat->((List Int)×Int)->Option (List Int)
 |0,_=>none
 |n+1,y8=>
  if y8.2 < (r3.2.1.length:Int) then((((aR r3.2.1 y8.2).bind λh=>
  (iI k q4 h a1).bind λc=>
  if 0≤c then((cM (bQ (length y8.1+length [c]))).bind λ_=>
  some (y8.1++[c])) else(some y8.1)):Option ((List Int))).bind λj=>
  (ck (y8.2+1)).bind λe=>
  kQ k a1 r3 q4 n (j,e)) else(some y8.1)
def sN(k:Nat)(a0:ae)(a1:Int):Option (fL×Int):=
 (ng k a0 [a1] ([]:(List Int)) ([]:(List Int))).bind λr3=>
 f9 r3.1 (if¬(r3.2.2=0) then(some ((0,0),r3.2.2)) else(none)) (λq4=>if¬(r3.2.2=0) then(some ((0,0),r3.2.2)) else(((kQ k a1 r3 q4 k (([]:(List Int)),0)):Option ((List Int))).bind λx6=>
 if(x6.length:Int)=0 then(some ((0,0),11)) else((mg k x6).bind λe=>
 (oG k x6).bind λc=>
 some ((e,c),0))))
theorem yc(k:Nat)(a0:ae)(a1:Int)(r:fL×Int)(h:sN k a0 a1=some r):
 bP (dN Tryz.prog) 15 [.rep au a0,I a1] [] (λ_:Unit=>(bD [.rep bU r.1,I r.2],[])):=by
 unfold sN at h
 replace h:=be h
 refine bP.of 51 Tryz.func15 rfl Tryz.ntmps15 rfl λS w0=>?_
 refine sr ?_
 refine bx λb1=>?_
 refine aS rfl rfl rfl (ba rfl Bq Ta) trivial λb2=>?_
 refine cq ?_
 refine nt ?_
 refine sr ?_
 refine fr 1 ?_
 refine lo iM ?_
 refine mq ?_
 refine ja (bj (t:=Ti) [(.tmp 15,_)] [a1] rfl rfl dL (.cons rfl .int .nil) rfl rfl) ?_
 obtain⟨r3,Y,h⟩:=aa h
 have s:=nF k a0 [a1] ([]:(List Int)) ([]:(List Int)) r3 Y
 rcases hr:r3.1 with _ |q4
 .
  rw [hr] at h s;replace h:=ve h;refine aN (Δ:=[]) (F:=_) (λ_ _ _=>ah rfl _) rfl rfl (bV (N:=[(.tmp 14,.rep au a0),(.tmp 16,.rep Tl [a1]),(.const (.slice none 0 0),.eq (.slice none 0 0)),(.const (.slice none 0 0),.eq (.slice none 0 0))]) (aX [.tmp 14,.tmp 16,.const (.slice none 0 0),.const (.slice none 0 0)] rfl rfl FH rfl s) λ_ _ _ hn=>⟨hn.1,hn.2.1,(aD (t:=Tl) (x:=([]:(List Int))) .nil rfl rfl hn.2.2.1),(aD (t:=Tl) (x:=([]:(List Int))) .nil rfl rfl hn.2.2.2.1),trivial⟩) ⟨rfl,rfl,rfl,rfl,trivial⟩ λ_=>?_;refine mq ?_;refine xr ?_;refine xr ?_;refine xr ?_;refine aq ?_;refine aq ?_;refine aq (nt (aj (sr ?_)));refine mq ?_;refine jb (fB rfl) ?_;refine nt (cn h (λh=>?_) (λh=>?_))
  .refine sr (cz rfl (eB [] rfl HO Bq AW (jV trivial) rfl) trivial ?_);refine mq ?_;refine fr 1 ?_;refine aM rfl rfl (aI rfl vP trivial rfl rfl) ⟨rfl,rfl,trivial⟩ ?_;refine aq (nt (rx ?_));refine bM (ge (a:=.agg (.pair (I 0) (I 0))) (a':=.rep bU (0,0)) (iq (.agg (.pair .int .int)))) ?_;cases h;exact aQ () [.rep bU (0,0),_] 0 ⟨⟨_,_,_,_,_,rfl,(.head _),vP,(t6),rfl⟩,rfl,trivial⟩ rfl
  .cases h
 .
  rw [hr] at h s;replace h:=vd h;refine aN (Δ:=[]) (F:=_) (λ_ _ _=>ah rfl _) rfl rfl (bV (N:=[(.tmp 14,.rep au a0),(.tmp 16,.rep Tl [a1]),(.const (.slice none 0 0),.eq (.slice none 0 0)),(.const (.slice none 0 0),.eq (.slice none 0 0))]) (aX [.tmp 14,.tmp 16,.const (.slice none 0 0),.const (.slice none 0 0)] rfl rfl FH rfl s) λ_ _ _ hn=>⟨hn.1,hn.2.1,(aD (t:=Tl) (x:=([]:(List Int))) .nil rfl rfl hn.2.2.1),(aD (t:=Tl) (x:=([]:(List Int))) .nil rfl rfl hn.2.2.2.1),trivial⟩) ⟨rfl,rfl,rfl,rfl,trivial⟩ λz5=>?_;refine mq ?_;refine xr ?_;refine xr ?_;refine xr ?_;refine aq ?_;refine aq ?_;refine aq (nt (aj (sr ?_)));refine mq ?_;refine jb (fB rfl) ?_;refine nt (cn h (λh=>?_) (λh=>?_))
  .refine sr (cz rfl (eB [] rfl HO Bq AW (jV trivial) rfl) trivial ?_);refine mq ?_;refine fr 3 ?_;refine aM rfl rfl (aI rfl vP trivial rfl rfl) ⟨rfl,rfl,trivial⟩ ?_;refine aq (nt (rx ?_));refine bM (ge (a:=.agg (.pair (I 0) (I 0))) (a':=.rep bU (0,0)) (iq (.agg (.pair .int .int)))) ?_;cases h;exact aQ () [.rep bU (0,0),_] 0 ⟨⟨_,_,_,_,_,rfl,(.head _),vP,(t6),rfl⟩,rfl,trivial⟩ rfl
  .refine sk (sr (cq (nt ?_)));refine aJ (Z:=Value) (α:=(List Int)) (λz7 x6=>[(4,Pt b2),(9,.eq z7)]) (λz7 x6=>[.obj b2 39 (.agg (.pair (I 0) (I 0))),.sl z7 3 Ti x6,.inv z5.2 (bN k q4)]) h (λK h=>?_) (λz7 x6 h=>?_)
   .refine sr (mq ?_);refine ol A1 ?_;refine fq rfl ?_;refine nt (ai (ik (SE.nil 3 Ti) ?_));refine aG (λz9 y8=>[(1,I a1),(4,Pt b2),(6,.eq (.pointer (some ⟨z5.1,0,none⟩))),(9,.eq z9),(25,.rep (.slice (.int .u8)) r3.2.1),(26,I (r3.2.1.length:Int)),(27,I y8.2)]) (λz9 y8=>[.obj b2 39 (.agg (.pair (I 0) (I 0))),.obj z5.1 125 (aO q4 z5.2),.sl z9 3 Ti y8.1,.inv z5.2 (bN k q4)]) (kQ k a1 r3 q4) k (.slice none 0 0) (([]:(List Int)),0) (λ_=>rfl) h (SE.fin [4,1,0,2] ⟨rfl,rfl,rfl,rfl,rfl,rfl,rfl,trivial⟩ rfl) (λn z9 y8 h=>?_);unfold kQ at h;refine sr (jb (bA rfl) ?_);refine nt (aj (ci h (λh=>?_) (λh=>?_)))
    .refine sk (aJ (Z:=Value) (α:=(List Int)) (λc e=>[(1,I a1),(4,Pt b2),(6,.eq (.pointer (some ⟨z5.1,0,none⟩))),(9,.eq c),(25,.rep (.slice (.int .u8)) r3.2.1),(26,I (r3.2.1.length:Int)),(27,I y8.2)]) (λc e=>[.obj b2 39 (.agg (.pair (I 0) (I 0))),.obj z5.1 125 (aO q4 z5.2),.sl c 3 Ti e,.inv z5.2 (bN k q4)]) h (λK h=>?_) (λc e h=>?_))
     .refine ai (sr ?_);obtain⟨U,D,h⟩:=aa h;refine jb (aW (t:=(.int .u8)) rfl A1 qi D) ?_;refine ja (av (t:=(.int .u8)) rfl qi rfl) ?_;refine aq (nt (sr ?_));iterate 3 refine mq ?_
      obtain⟨u,O,h⟩:=aa h;refine fr 3 ?_;refine fr 2 ?_;refine aN (Δ:=[_,_]) (F:=_) (λ_ _ _=>ah rfl _) rfl rfl (aX [.tmp 31,.tmp 32,.tmp 33] rfl rfl SG rfl (lG k q4 z5.1 z5.2 U a1 u O)) ⟨rfl,rfl,rfl,trivial⟩ λ_=>?_;refine aq (nt (sr ?_));refine mq ?_;refine jb (kG rfl) ?_;refine nt (ci h (λh=>?_) (λh=>?_))
      .refine ab ?_;iterate 2 refine mq ?_
       refine ja (bj (t:=Ti) [(.tmp 38,_)] [u] rfl rfl dL (.cons rfl .int .nil) rfl rfl) ?_;obtain⟨gw,E,h⟩:=aa h;refine fr 3 ?_;refine dS rfl rfl rfl (cg rfl rfl dL (am E)) ⟨rfl,rfl,trivial⟩ λX=>?_;refine aq (aH (bn ?_));exact jz (X,y8.1++[u]) h [3,1,0,2]
      .refine bg (bn ?_);exact jz (z9,y8.1) h [2,0,3,1]
     .refine ab ?_;obtain⟨Q,y,h⟩:=aa h;refine jb (bp rfl y) ?_;refine mq (nl ?_);exact jz (c,(e,Q)) h [0,1,2,3]
    .refine xa ?_;exact jz (z9,y8.1) h [0,2,3]
   .refine aj (sr (mq ?_));refine fr 1 ?_;refine ka (jA rfl rfl g7) ?_;refine jb (jg rfl) ?_;refine nt (ci h (λh=>?_) (λh=>?_))
    .refine sr (cz rfl (eB [] rfl HO Bq AW (jV trivial) rfl) trivial ?_);refine fr 1 ?_;refine aM rfl rfl (aI rfl vP trivial rfl rfl) ⟨rfl,rfl,trivial⟩ ?_;refine cq (nt (rx ?_));refine bM (ge (a:=.agg (.pair (I 0) (I 0))) (a':=.rep bU (0,0)) (iq (.agg (.pair .int .int)))) ?_;cases h;exact aQ () [.rep bU (0,0),_] 0 ⟨⟨_,_,_,_,_,rfl,(.head _),vP,(t6),rfl⟩,rfl,trivial⟩ rfl
    .refine sk (sr (mq ?_));obtain⟨l,M,h⟩:=aa h;refine ka (g9 (N:=[(.tmp 46,.eq z7)]) (ay [.tmp 46] rfl rfl SD rfl (oD k x6 l M)) (λ_ _ _ hv hn=>⟨(lend hn.1 hv),trivial⟩) (λ_=>⟨rfl,np⟩)) ?_;refine mq ?_;obtain⟨j,J,h⟩:=aa h;refine ka (g9 (N:=[(.tmp 48,.eq z7)]) (ay [.tmp 48] rfl rfl Vb rfl (uk k x6 j J)) (λ_ _ _ hv hn=>⟨(lend hn.1 hv),trivial⟩) (λ_=>⟨rfl,np⟩)) ?_;refine jb (eB [(0,.tmp 47,_),(1,.tmp 49,_)] rfl HO Bq AW (jV ⟨rfl,rfl,trivial⟩) rfl) ?_;refine fr 1 ?_;refine aM rfl rfl (aI rfl vP trivial rfl rfl) ⟨rfl,rfl,trivial⟩ ?_;refine cq (nt (aA ?_));refine bM (ge (a:=.agg (.pair (I l) (I j))) (a':=.rep bU (l,j)) (iq (.agg (.pair .int .int)))) ?_;cases h;exact aQ () [.rep bU (l,j),_] 0 ⟨⟨_,_,_,_,_,rfl,(.head _),vP,(t6),rfl⟩,rfl,trivial⟩ rfl
def gG(k:Nat)(r2:(List (List Int)))(y6:Int×Int×(List (eP×eP))):Nat->Int->Option Int
 |0,_=>none
 |n+1,c=>
  ((if 0 < c then((ck (c - 1)).bind λl=>
  (aR r2 l).bind λj=>
  (aR j y6.1).bind λh=>
  some (decide (0≤h))) else(some false)):Option (Bool)).bind λr=>
  if r=true then((ck (c - 1)).bind λe=>
  gG k r2 y6 n e) else(some c)
def gI(k:Nat)(a0:ae)(r2:(List (List Int))):Nat->(Int×Int×(List (eP×eP)))->Option (List (fL×fL))
 |0,_=>none
 |n+1,y6=>
  bE (α:=Int×Int×(List (eP×eP))) (((gG k r2 y6 k y6.2.1):Option (Int)).bind λc=>
  if c=0 then((cM (zo (y6.1,y6.2.1))).bind λ_=>
  some (.error (Ce y6.2.2 (y6.1,y6.2.1) ((-1:Int),0)))) else((ck (c - 1)).bind λr=>
  (aR r2 r).bind λl=>
  (ck (c - 1)).bind λj=>
  (dD k a0 l y6.1 j).bind λh=>
  (ck (c - 1)).bind λe=>
  (cM (zo (y6.1,y6.2.1))).bind λ_=>
  some (.ok (h,e,Ce y6.2.2 (y6.1,y6.2.1) (h,e))))) (some) λx8=>
  gI k a0 r2 n (x8.1,x8.2.1,x8.2.2)
def lI(k:Nat)(a0:ae)(a1:Int)(a2:fL):Option (List (fL×fL)):=
 (ma k a0 a1).bind λr2=>
 gI k a0 r2 k (a2.1,a2.2,([]:List (eP×eP)))
theorem rM(k:Nat)(a0:ae)(c z_a0:Nat)(a1:Int)(a2:fL)(r:(List (fL×fL)))(h:lI k a0 a1 a2=some r):
 bP (dN Tryz.prog) 80 [Pt c,.eq (.int .u8 a1),.rep bU a2] [.obj c 125 (aO a0 z_a0),.inv z_a0 (bN k a0)] (λz:Nat=>(bD [.eq (.map (some z))],[.inv z (tN r),.obj c 125 (aO a0 z_a0),.inv z_a0 (bN k a0)])):=by
 unfold lI at h
 replace h:=be h
 refine bP.of 56 Tryz.func80 rfl Tryz.ntmps80 rfl λS w0=>?_
 refine sr ?_
 refine bx λb1=>?_
 refine cq ?_
 refine nt ?_
 refine sr ?_
 iterate 2 refine mq ?_
 obtain⟨r2,Wx,h⟩:=aa h
 have Wy:=pH k a0 c z_a0 a1 r2 Wx
 refine fr 2 ?_
 refine fr 2 ?_
 refine aN (Δ:=[_,_]) (F:=_) (λ_ _ _=>ah rfl _) rfl rfl (aX [.tmp 12,.tmp 13] rfl rfl FI rfl Wy) ⟨rfl,rfl,trivial⟩ λ_=>?_
 refine aS rfl rfl rfl (ba rfl GA Jw) trivial λb3=>?_
 refine aM rfl rfl (aI rfl Hj rfl rfl rfl) ⟨rfl,rfl,trivial⟩ ?_
 refine d4 (jI (t:=(.arr 7 Tr)) (x:=r2) [7] .rep ⟨rfl,trivial⟩) ?_
 refine nt ?_
 refine sr ?_
 refine aS rfl rfl rfl (wP rfl) trivial λz4=>?_
 refine d4 (tp (tN []) KY) ?_
 refine aq ?_
 refine nt ?_
 refine sr ?_
 refine aS rfl rfl rfl (ba rfl tz AX) trivial λb5=>?_
 refine nt ?_
 refine sr ?_
 refine fl yu ?_
 refine aM rfl rfl (aI rfl cF rfl rfl rfl) ⟨rfl,rfl,trivial⟩ ?_
 refine nt ?_
 refine ai ?_
 refine cj 4 rfl ?_
 refine ik (ge (a:=.rep bU a2) (a':=.agg (.pair (I a2.1) (I a2.2))) (AE.trans ET (AE.agg (AE.trans Bd (AE.pair AE.int AE.int))))) ?_
 refine aG (λz7 y6=>[(0,Pt c),(5,Pt b1),(7,.at (.arr 7 Tr) r2),(8,.eq (.map (some z4))),(9,Pt b5)]) (λz7 y6=>[.obj c 125 (aO a0 z_a0),.obj b1 131 (.agg (.pair (I y6.1) (I y6.2.1))),.obj b5 131 (.agg (.pair (I (-1:Int)) (I 0))),.inv z_a0 (bN k a0),.inv z4 (tN y6.2.2)]) (gI k a0 r2) k () (a2.1,a2.2,([]:List (eP×eP))) (λ_=>rfl) h (SE.fin [3,0,1,4,2] ⟨rfl,rfl,rfl,rfl,rfl,trivial⟩ rfl) (λn z7 y6 h=>?_)
 unfold gI at h
 refine J7 (Z:=Unit) (α:=Int×Int×(List (eP×eP))) (λz9 x8=>[(0,Pt c),(5,Pt b1),(7,.at (.arr 7 Tr) r2),(8,.eq (.map (some z4))),(9,Pt b5)]) (λz9 x8=>[.obj c 125 (aO a0 z_a0),.obj b1 131 (.agg (.pair (I x8.1) (I x8.2.1))),.obj b5 131 (.agg (.pair (I (-1:Int)) (I 0))),.inv z_a0 (bN k a0),.inv z4 (tN x8.2.2)]) (λe=>e=r) h (λe h=>Option.some.inj h) (λK hR h=>?_) (λz9 x8 h=>?_)
 .
  refine ai (sr (fl MP ?_));refine fr 1 ?_;refine lo cF ?_;refine aq (nt ?_);refine aJ (Z:=Unit) (α:=Int) (λO D=>[(0,Pt c),(5,Pt b1),(7,.at (.arr 7 Tr) r2),(8,.eq (.map (some z4))),(9,Pt b5),(10,I D)]) (λO D=>[.obj c 125 (aO a0 z_a0),.obj b1 131 (.agg (.pair (I y6.1) (I y6.2.1))),.obj b5 131 (.agg (.pair (I (-1:Int)) (I 0))),.inv z_a0 (bN k a0),.inv z4 (tN y6.2.2)]) h (λK h=>?_) (λO D h=>?_)
  .refine ai (aG (λM s=>[(0,Pt c),(5,Pt b1),(7,.at (.arr 7 Tr) r2),(8,.eq (.map (some z4))),(9,Pt b5),(10,I s)]) (λM s=>[.obj c 125 (aO a0 z_a0),.obj b1 131 (.agg (.pair (I y6.1) (I y6.2.1))),.obj b5 131 (.agg (.pair (I (-1:Int)) (I 0))),.inv z_a0 (bN k a0),.inv z4 (tN y6.2.2)]) (gG k r2 y6) k () y6.2.1 (λ_=>rfl) h (SE.fin [1,0,2,3,4] ⟨rfl,rfl,rfl,rfl,rfl,rfl,trivial⟩ rfl) (λn M s h=>?_));unfold gG at h;refine aj (aJ (Z:=Unit) (α:=Bool) (λJ y=>[(0,Pt c),(5,Pt b1),(7,.at (.arr 7 Tr) r2),(8,.eq (.map (some z4))),(9,Pt b5),(10,I s),(30,.eq (.bool y))]) (λJ y=>[.obj c 125 (aO a0 z_a0),.obj b1 131 (.agg (.pair (I y6.1) (I y6.2.1))),.obj b5 131 (.agg (.pair (I (-1:Int)) (I 0))),.inv z_a0 (bN k a0),.inv z4 (tN y6.2.2)]) h (λK h=>?_) (λJ y h=>?_))
   .refine co ?_;refine dm ?_;refine db (ml rfl) ?_;refine sc rfl rfl rfl (aV rfl) ⟨rfl,trivial⟩ (λhb=>?_) (λhb=>?_)
    .replace h:=eQ (ta hb) h;refine bZ rfl rfl rfl rfl rfl (aV rfl) ⟨rfl,rfl,trivial⟩ ?_;obtain⟨WI,V9,h⟩:=aa h;refine bZ rfl rfl rfl rfl rfl (dM rfl V9) ⟨rfl,rfl,rfl,trivial⟩ ?_;refine bZ rfl rfl rfl rfl rfl (aF rfl yu) ⟨rfl,rfl,trivial⟩ ?_;refine fu 1 rfl rfl rfl rfl rfl rfl (ax rfl cF ny rfl) ⟨rfl,rfl,trivial⟩ ?_;obtain⟨WH,V8,h⟩:=aa h;refine bZ rfl rfl rfl rfl rfl (cC (t:=Tr) rfl Kz jv V8) ⟨rfl,rfl,rfl,trivial⟩ ?_;refine df dz ?_;obtain⟨Wi,zM,h⟩:=aa h;refine gb (cC (t:=Ti) rfl Db cF zM) ?_;refine ga (av (t:=Ti) rfl cF rfl) ?_;refine gb (kG rfl) ?_;refine pt (nl ?_);exact jz ((),decide (0≤Wi)) h [0,1,2,3,4]
    .replace h:=c6 (tc hb) h;iterate 5 refine dg ?_
     refine df dz ?_;iterate 3 refine gn ?_
     refine pf (nl ?_);exact jz ((),false) h [0,1,2,3,4]
   .refine cv h (λh=>?_) (λh=>?_)
    .refine sk (ai (ab (mq ?_)));obtain⟨Wh,zz,h⟩:=aa h;refine jb (dM rfl zz) ?_;refine aq (aH (bn ?_));exact jz ((),Wh) h [0,1,2,3,4]
    .refine xa ?_;exact jz ((),s) h [0,1,2,3,4]
  .refine aj (sr (mq ?_));refine jb (jg rfl) ?_;refine nt (ci h (λh=>?_) (λh=>?_))
   .refine sr (mq ?_);refine fr 1 ?_;refine lo jU ?_;refine fr 2 ?_;refine lo jU ?_;refine d4 (fA (t:=bU) (x:=(y6.1,y6.2.1)) 36 rfl (.agg (.pair .int .int)) trivial rfl) ?_;obtain⟨WZ,Wb,h⟩:=aa h;refine d4 (fA (t:=bU) (x:=((-1:Int),0)) 37 rfl (.agg (.pair .int .int)) trivial rfl) ?_;refine fr 4 ?_;refine aM rfl rfl (rF (K:=lw) (V:=lw) (t:=(y6.1,y6.2.1)) (n:=((-1:Int),0)) (l:=y6.2.2) (λ_ _ _ h=>nz h) rfl F9 mU (λ_ _ _ h=>nz h) (rp (am Wb)) (rm _) ru) ⟨rfl,rfl,rfl,trivial⟩ ?_;refine nt (sr (mq ?_));refine aq (nt (rx (br (bh ?_))));refine bM (SE.fin (Γ':=[(6,_)]) [0,3,4,1,2] ⟨rfl,trivial⟩ rfl) ?_;obtain rfl:=hR _ h;exact aQ z4 [.eq (.map (some z4))] 3 ⟨rfl,trivial⟩ rfl
   .refine sk (aj (nu ?_));refine bb rfl rfl rfl (aV rfl) ⟨rfl,trivial⟩ ?_;refine bb rfl rfl rfl (aV rfl) ⟨rfl,trivial⟩ ?_;obtain⟨WG,qt,h⟩:=aa h;refine bb rfl rfl rfl (dM rfl qt) ⟨rfl,rfl,trivial⟩ ?_;obtain⟨Wg,pq,h⟩:=aa h;refine bb rfl rfl rfl (cC (t:=Tr) rfl Kz jv pq) ⟨rfl,rfl,trivial⟩ ?_;refine bb rfl rfl rfl (av (t:=Tr) rfl jv rfl) ⟨rfl,trivial⟩ ?_;refine bb rfl rfl rfl (aF rfl yu) ⟨rfl,trivial⟩ ?_;refine eR 1 rfl rfl rfl rfl (ax rfl cF ny rfl) ⟨rfl,trivial⟩ ?_;refine bb rfl rfl rfl (aV rfl) ⟨rfl,trivial⟩ ?_;obtain⟨We,mw,h⟩:=aa h;refine bb rfl rfl rfl (dM rfl mw) ⟨rfl,rfl,trivial⟩ ?_;obtain⟨j,Wc,h⟩:=aa h;refine eR 0 rfl rfl rfl rfl (ay [.tmp 39,.tmp 43,.tmp 45,.tmp 47] rfl rfl Oq rfl (oh k a0 c z_a0 Wg y6.1 We j Wc)) ⟨rfl,rfl,rfl,rfl,trivial⟩ ?_;refine bb rfl rfl rfl (aV rfl) ⟨rfl,trivial⟩ ?_;obtain⟨u,mc,h⟩:=aa h;refine bb rfl rfl rfl (dM rfl mc) ⟨rfl,rfl,trivial⟩ ?_;refine bb rfl rfl rfl (eB [(0,.tmp 48,_),(1,.tmp 50,_)] rfl HQ tz C6 (jV ⟨rfl,rfl,trivial⟩) rfl) ⟨rfl,rfl,trivial⟩ ?_;refine NW (Pz 131 (.agg (.pair (I 0) (I 0)))) (λ_=>rfl) rfl rfl rfl (ba rfl tz AX) trivial ?_;refine qX 14 [true,true,true,true,true,true,true,true,true,true,true,true,true,true] [] [] [] rfl (by kernel_rfl) (by kernel_rfl) (by kernel_rfl) dz (λvs hv hB=>?_);obtain⟨w0,WX,rfl,Wv⟩:=an hv;obtain⟨w1,WW,rfl,Wu⟩:=an Wv;obtain⟨w2,WU,rfl,Wt⟩:=an Wu;obtain⟨w3,WT,rfl,Ws⟩:=an Wt;obtain⟨w4,WS,rfl,Wq⟩:=an Ws;obtain⟨w5,WR,rfl,Wp⟩:=an Wq;obtain⟨w6,WQ,rfl,Wn⟩:=an Wp;obtain⟨w7,WP,rfl,Wm⟩:=an Wn;obtain⟨w8,WO,rfl,Wj⟩:=an Wm;obtain⟨w9,WE,rfl,gw⟩:=an Wj;obtain⟨WN,WC,rfl,Y⟩:=an gw;obtain⟨WM,WB,rfl,X⟩:=an Y;obtain⟨WL,WA,rfl,U⟩:=an X;obtain⟨WJ,Wz,rfl,Q⟩:=an U;obtain rfl:=nK Q;obtain⟨E,rfl⟩:=Py hB.2.2.2.2.2.2.2.2.2.2.2.2.2.1;refine⟨[0,1,2,3,4,5],[.obj c 125 (aO a0 z_a0),.obj b1 131 (.agg (.pair (I y6.1) (I y6.2.1))),.obj b5 131 (.agg (.pair (I (-1:Int)) (I 0))),.inv z_a0 (bN k a0),.inv z4 (tN y6.2.2),.obj E 131 (.agg (.pair (I 0) (I 0)))],by kernel_rfl,by decide,?_⟩;refine sa 5 rfl ?_;refine pg rfl rfl (aI rfl jU trivial rfl rfl) ⟨rfl,rfl,trivial⟩ (by kernel_rfl) ?_;refine vv ?_;refine bM (SE.fin (Γ':=[(0,Pt c),(5,Pt b1),(7,.at (.arr 7 Tr) r2),(8,.eq (.map (some z4))),(9,Pt b5),(11,Pt E)]) (Δ':=[.obj E 131 (.agg (.pair (I j) (I u))),.obj c 125 (aO a0 z_a0),.obj b1 131 (.agg (.pair (I y6.1) (I y6.2.1))),.obj b5 131 (.agg (.pair (I (-1:Int)) (I 0))),.inv z_a0 (bN k a0),.inv z4 (tN y6.2.2)]) [0,1,2,3,4,5] ⟨rfl,rfl,rfl,rfl,rfl,rfl,trivial⟩ rfl) ?_;refine tn (sr (mq ?_));refine fr 2 ?_;refine lo jU ?_;refine fr 1 ?_;refine lo jU ?_;refine d4 (fA (t:=bU) (x:=(y6.1,y6.2.1)) 53 rfl (.agg (.pair .int .int)) trivial rfl) ?_;obtain⟨WY,Wa,h⟩:=aa h;refine d4 (fA (t:=bU) (x:=(j,u)) 54 rfl (.agg (.pair .int .int)) trivial rfl) ?_;refine fr 5 ?_;refine aM rfl rfl (rF (K:=lw) (V:=lw) (t:=(y6.1,y6.2.1)) (n:=(j,u)) (l:=y6.2.2) (λ_ _ _ h=>nz h) rfl F9 mU (λ_ _ _ h=>nz h) (rp (am Wa)) (rm _) ru) ⟨rfl,rfl,rfl,trivial⟩ ?_
    refine nt (ab (fr 1 ?_));refine lo jU ?_;refine fr 2 ?_;refine aM rfl rfl (aI rfl jU trivial rfl rfl) ⟨rfl,rfl,trivial⟩ ?_;refine aH (bn ?_);exact jz ((),(j,u,Ce y6.2.2 (y6.1,y6.2.1) (j,u))) h [3,0,4,5,2]
 .
  refine ao ?_;exact jz ((),(x8.1,x8.2.1,x8.2.2)) h [0,1,2,3,4]
def kR(k:Nat)(r7:(List (fL×fL))):Nat->(Int×Int×(List Int))->Option (List Int)
 |0,_=>none
 |n+1,c=>
  (cM (zo (c.1,c.2.1))).bind λ_=>
  if¬((nJ r7 (c.1,c.2.1) (0,0))=((-1:Int),0)) then((cM (zo (c.1,c.2.1))).bind λ_=>
  (cM (bQ (length c.2.2+length [(nJ r7 (c.1,c.2.1) (0,0)).1]))).bind λ_=>
  (cM (zo (c.1,c.2.1))).bind λ_=>
  kR k r7 n ((nJ r7 (c.1,c.2.1) (0,0)).1,(nJ r7 (c.1,c.2.1) (0,0)).2,c.2.2++[(nJ r7 (c.1,c.2.1) (0,0)).1])) else(some c.2.2)
def sO(k:Nat)(a0:ae)(a1:(List Int))(a2:Int):Option ((List Int)×Int):=
 (jj k a0 a1 [a2] ([]:(List Int)) ([]:(List Int))).bind λr2=>
 f9 r2.1 (if¬(r2.2.2=0) then(some (([]:(List Int)),r2.2.2)) else(none)) (λq3=>if¬(r2.2.2=0) then(some (([]:(List Int)),r2.2.2)) else((iI k q3 r2.2.1 a2).bind λr5=>
 if r5 < 0 then(some (([]:(List Int)),11)) else((lI k q3 r2.2.1 (a2,r5)).bind λr7=>
 ((kR k r7 k (a2,r5,[a2])):Option ((List Int))).bind λc=>
 (ky k c).bind λe=>
 some (e,0))))
theorem ye(k:Nat)(a0:ae)(a1:(List Int))(a2:Int)(r:(List Int)×Int)(h:sO k a0 a1 a2=some r):
 bP (dN Tryz.prog) 48 [.rep au a0,.rep Tl a1,I a2] [] (λ_:Unit=>(bD [.rep Tl r.1,I r.2],[])):=by
 unfold sO at h
 replace h:=be h
 refine bP.of 64 Tryz.func48 rfl Tryz.ntmps48 rfl λS w0=>?_
 refine sr ?_
 refine bx λb1=>?_
 refine cq ?_
 refine cq ?_
 refine nt ?_
 refine sr ?_
 refine lo iM ?_
 iterate 2 refine mq ?_
 refine ja (bj (t:=Ti) [(.tmp 19,_)] [a2] rfl rfl dL (.cons rfl .int .nil) rfl rfl) ?_
 obtain⟨r2,Y,h⟩:=aa h
 have u:=jZ k a0 a1 [a2] ([]:(List Int)) ([]:(List Int)) r2 Y
 rcases hr:r2.1 with _ |q3
 .
  rw [hr] at h u;replace h:=ve h;refine aN (Δ:=[]) (F:=_) (λ_ _ _=>ah rfl _) rfl rfl (bV (N:=[(.tmp 17,.rep au a0),(.tmp 18,.rep Tl a1),(.tmp 20,.rep Tl [a2]),(.const (.slice none 0 0),.eq (.slice none 0 0)),(.const (.slice none 0 0),.eq (.slice none 0 0))]) (aX [.tmp 17,.tmp 18,.tmp 20,.const (.slice none 0 0),.const (.slice none 0 0)] rfl rfl wi rfl u) λ_ _ _ hn=>⟨hn.1,hn.2.1,hn.2.2.1,(aD (t:=Tl) (x:=([]:(List Int))) .nil rfl rfl hn.2.2.2.1),(aD (t:=Tl) (x:=([]:(List Int))) .nil rfl rfl hn.2.2.2.2.1),trivial⟩) ⟨rfl,rfl,rfl,rfl,rfl,trivial⟩ λ_=>?_;refine mq ?_;refine xr ?_;refine xr ?_;refine xr ?_;refine aq ?_;refine aq ?_;refine aq (nt (aj (sr ?_)));refine mq ?_;refine jb (fB rfl) ?_;refine nt (cn h (λh=>?_) (λh=>?_))
  .refine sr (mq ?_);refine cq ?_;refine aq (nt (rx ?_));refine bM (fA (t:=Tl) (x:=([]:(List Int))) 6 rfl .nil rfl rfl) ?_;cases h;exact rb
  .cases h
 .
  rw [hr] at h u;replace h:=vd h;refine aN (Δ:=[]) (F:=_) (λ_ _ _=>ah rfl _) rfl rfl (bV (N:=[(.tmp 17,.rep au a0),(.tmp 18,.rep Tl a1),(.tmp 20,.rep Tl [a2]),(.const (.slice none 0 0),.eq (.slice none 0 0)),(.const (.slice none 0 0),.eq (.slice none 0 0))]) (aX [.tmp 17,.tmp 18,.tmp 20,.const (.slice none 0 0),.const (.slice none 0 0)] rfl rfl wi rfl u) λ_ _ _ hn=>⟨hn.1,hn.2.1,hn.2.2.1,(aD (t:=Tl) (x:=([]:(List Int))) .nil rfl rfl hn.2.2.2.1),(aD (t:=Tl) (x:=([]:(List Int))) .nil rfl rfl hn.2.2.2.2.1),trivial⟩) ⟨rfl,rfl,rfl,rfl,rfl,trivial⟩ λz4=>?_;refine mq ?_;refine xr ?_;refine xr ?_;refine xr ?_;refine aq ?_;refine aq ?_;refine aq (nt (aj (sr ?_)));refine mq ?_;refine jb (fB rfl) ?_;refine nt (cn h (λh=>?_) (λh=>?_))
  .refine sr (mq ?_);refine cq ?_;refine aq (nt (rx ?_));refine bM (fA (t:=Tl) (x:=([]:(List Int))) 6 rfl .nil rfl rfl) ?_;cases h;exact rb
  .refine sk (sr ?_);iterate 3 refine mq ?_
   obtain⟨r5,X,h⟩:=aa h;refine fr 1 ?_;refine fr 1 ?_;refine aN (Δ:=[_,_]) (F:=_) (λ_ _ _=>ah rfl _) rfl rfl (aX [.tmp 28,.tmp 29,.tmp 30] rfl rfl SG rfl (lG k q3 z4.1 z4.2 r2.2.1 a2 r5 X)) ⟨rfl,rfl,rfl,trivial⟩ λ_=>?_;refine aq (nt (aj (sr ?_)));refine mq ?_;refine jb (bA rfl) ?_;refine nt (ci h (λh=>?_) (λh=>?_))
   .refine sr (cq ?_);refine cq (nt (rx ?_));refine bM (fA (t:=Tl) (x:=([]:(List Int))) 6 rfl .nil rfl rfl) ?_;cases h;exact rb
   .refine sk (sr ?_);iterate 2 refine mq ?_
    refine jb (eB [(0,.tmp 34,_),(1,.tmp 35,_)] rfl HQ tz C6 (jV ⟨rfl,rfl,trivial⟩) rfl) ?_;refine aS rfl rfl rfl (ba rfl tz AX) trivial λb6=>?_;refine aM rfl rfl (aI rfl jU trivial rfl rfl) ⟨rfl,rfl,trivial⟩ ?_;refine nt (sr ?_);iterate 2 refine mq ?_
    refine lo jU ?_;obtain⟨r7,U,h⟩:=aa h;refine fr 2 ?_;refine fr 2 ?_;refine aN (Δ:=[_,_]) (F:=_) (λ_ _ _=>ah rfl _) rfl rfl (bV (N:=[(.tmp 37,.eq (.pointer (some ⟨z4.1,0,none⟩))),(.tmp 38,.eq (.int .u8 r2.2.1)),(.tmp 39,.agg (.pair (I a2) (I r5)))]) (aX [.tmp 37,.tmp 38,.tmp 39] rfl rfl UU rfl (rM k q3 z4.1 z4.2 r2.2.1 (a2,r5) r7 U)) λ_ _ _ hn=>⟨hn.1,hn.2.1,(aD (t:=bU) (x:=(a2,r5)) (.agg (.pair .int .int)) trivial rfl hn.2.2.1),trivial⟩) ⟨rfl,rfl,rfl,trivial⟩ λz8=>?_;refine aq (nt (sr ?_));refine mq ?_;refine aS rfl rfl rfl (iN (t:=Ti) [(.tmp 41,_)] [a2] rfl rfl dL (.cons rfl .int .nil) rfl rfl) ⟨rfl,trivial⟩ λv9=>?_;refine aq (nt ?_);refine aJ (Z:=Value) (α:=(List Int)) (λj s=>[(13,.eq (.map (some z8))),(14,.eq j)]) (λj s=>[.sl j 3 Ti s,.inv z4.2 (bN k q3),.inv z8 (tN r7)]) h (λK h=>?_) (λj s h=>?_)
    .refine sr (ja (eB [(0,.const (.int .i64 (-1)),_)] rfl HQ tz C6 (jV ⟨rfl,trivial⟩) rfl) ?_);refine aS rfl rfl rfl (ba rfl tz AX) trivial λmc=>?_;refine aM rfl rfl (aI rfl jU trivial rfl rfl) ⟨rfl,rfl,trivial⟩ ?_;refine nt (ai (aG (λe c=>[(12,Pt b6),(13,.eq (.map (some z8))),(14,.eq e.1),(15,.eq (.pointer (some ⟨e.2,0,none⟩)))]) (λe c=>[.obj b6 131 (.agg (.pair (I c.1) (I c.2.1))),.sl e.1 3 Ti c.2.2,.obj e.2 131 (.agg (.pair (I (-1:Int)) (I 0))),.inv z4.2 (bN k q3),.inv z8 (tN r7)]) (kR k r7) k (v9,mc) (a2,r5,[a2]) (λ_=>rfl) h (SE.fin [5,1,0,4,2] ⟨rfl,rfl,rfl,rfl,trivial⟩ rfl) (λn e c h=>?_)));unfold kR at h;refine aj (aj (co ?_));refine dm ?_;refine ea 0 (ax rfl jU (t6) rfl) ?_;obtain⟨qt,J,h⟩:=aa h;refine eb 4 (bV (N:=[(.tmp 44,.eq (.map (some z8))),(.tmp 45,.agg (.pair (I c.1) (I c.2.1)))]) (sB (K:=lw) (V:=lw) (t:=(c.1,c.2.1)) (l:=r7) (λn=>.rep bU n) uh rfl F9 (0,0) ug mU (λ_ _ _ h=>nz h) (rp (am J)) (rm _) ru) λ_ _ _ hn=>⟨hn.1,(aD (t:=bU) (x:=(c.1,c.2.1)) (.agg (.pair .int .int)) trivial rfl hn.2.1),trivial⟩) ?_;refine ea 2 (ax rfl jU (t6) rfl) ?_;refine df dz ?_;refine d4 (fA (t:=bU) (x:=((-1:Int),0)) 47 rfl (.agg (.pair .int .int)) trivial rfl) ?_;refine jb (PH rfl Si rfl) ?_;refine nt (cn h (λh=>?_) (λh=>?_))
     .refine sk (aj (ai (ab ?_)));iterate 2 refine mq ?_
      refine lo jU ?_;refine d4 (fA (t:=bU) (x:=(c.1,c.2.1)) 54 rfl (.agg (.pair .int .int)) trivial rfl) ?_;obtain⟨u16,E,h⟩:=aa h;refine fr 4 ?_;refine kb (bV (N:=[(.tmp 53,.eq (.map (some z8))),(.tmp 54,.rep bU (c.1,c.2.1))]) (sB (K:=lw) (V:=lw) (t:=(c.1,c.2.1)) (l:=r7) (λn=>.rep bU n) uh rfl F9 (0,0) ug mU (λ_ _ _ h=>nz h) (rp (am E)) (rm _) ru) λ_ _ _ hn=>⟨hn.1,hn.2.1,trivial⟩) ?_;refine ja (LC rfl Vv rfl cF (λ_=>rfl) rfl rfl rfl) ?_;refine ja (bj (t:=Ti) [(.tmp 56,_)] [(nJ r7 (c.1,c.2.1) (0,0)).1] rfl rfl dL (.cons rfl .int .nil) rfl rfl) ?_;obtain⟨pq,D,h⟩:=aa h;refine fr 2 ?_;refine dS rfl rfl rfl (cg rfl rfl dL (am D)) ⟨rfl,rfl,trivial⟩ λO=>?_;refine aq (aH (aL (tn (aj (sr ?_)))));refine fr 3 ?_;refine lo jU ?_;refine nt (ab (aS rfl rfl rfl (ba rfl tz AX) trivial λgw=>?_));refine aM rfl rfl (aI rfl jU trivial rfl rfl) ⟨rfl,rfl,trivial⟩ ?_;refine nt (ab (mq ?_));refine fr 4 ?_;refine lo jU ?_;refine d4 (fA (t:=bU) (x:=(c.1,c.2.1)) 50 rfl (.agg (.pair .int .int)) trivial rfl) ?_;obtain⟨mw,y,h⟩:=aa h;refine fr 4 ?_;refine kb (bV (N:=[(.tmp 49,.eq (.map (some z8))),(.tmp 50,.rep bU (c.1,c.2.1))]) (sB (K:=lw) (V:=lw) (t:=(c.1,c.2.1)) (l:=r7) (λn=>.rep bU n) uh rfl F9 (0,0) ug mU (λ_ _ _ h=>nz h) (rp (am y)) (rm _) ru) λ_ _ _ hn=>⟨hn.1,hn.2.1,trivial⟩) ?_;refine fr 1 ?_;refine aM rfl rfl (aI rfl jU rfl rfl rfl) ⟨rfl,rfl,trivial⟩ ?_;refine nl (bM (ge (a:=.rep bU (nJ r7 (c.1,c.2.1) (0,0))) (a':=.agg (.pair (I ((nJ r7 (c.1,c.2.1) (0,0)).1)) (I ((nJ r7 (c.1,c.2.1) (0,0)).2)))) (AE.trans ET (AE.agg (AE.trans Bd (AE.pair AE.int AE.int))))) ?_);exact jz ((O,gw),((nJ r7 (c.1,c.2.1) (0,0)).1,(nJ r7 (c.1,c.2.1) (0,0)).2,c.2.2++[(nJ r7 (c.1,c.2.1) (0,0)).1])) h [0,4,2,5,1]
     .refine xa ?_;exact jz (e.1,c.2.2) h [1,3,4]
    .refine sr (mq ?_);refine fr 2 ?_;refine aM rfl rfl (Ia rfl rfl F9) ⟨rfl,trivial⟩ ?_;refine nt (sr (mq ?_));obtain⟨Q,M,h⟩:=aa h;refine fr 1 ?_;refine ka (ay [.tmp 61] rfl rfl UT rfl (qq k s j Q M)) ?_;refine nt (sr (mq ?_));refine aq ?_;refine cq (nt (aA ?_));refine bM (ip [6,14,61,63] ⟨rfl,rfl,rfl,rfl,trivial⟩) ?_;cases h;exact rb
def mt(k:Nat)(a0:ae)(a1:Int)(r2:(Option ae)×(List Int)×Int)(q3:ae)(y7:(List Int)×Int):Nat->(Int×Int)->Option Int
 |0,_=>none
 |n+1,c=>
  if c.2 < (r2.2.1.length:Int) then((((aR r2.2.1 c.2).bind λr=>
  (ma k q3 r).bind λu=>
  (aR u a1).bind λl=>
  (aR l y7.2).bind λj=>
  if a0.2.2.1≤j then((ck (c.1+1)).bind λh=>
  some h) else(some c.1)):Option (Int)).bind λs=>
  (ck (c.2+1)).bind λe=>
  mt k a0 a1 r2 q3 y7 n (s,e)) else(some c.1)
def my(k:Nat)(a0:ae)(a1:Int)(r2:(Option ae)×(List Int)×Int)(q3:ae):Nat->((List Int)×Int)->Option (List Int)
 |0,_=>none
 |n+1,y7=>
  if y7.2 < a0.1 then(((((mt k a0 a1 r2 q3 y7 k (0,0)):Option (Int)).bind λc=>
  (ck ((r2.2.1.length:Int) - c)).bind λe=>
  (cM (bQ (length y7.1+length [sY c e]))).bind λ_=>
  some (y7.1++[sY c e])):Option ((List Int))).bind λx9=>
  (ck (y7.2+1)).bind λh=>
  my k a0 a1 r2 q3 n (x9,h)) else(some y7.1)
def uM(k:Nat)(a0:ae)(a1:Int):Option (Int×Int×Int):=
 (ng k a0 ([]:(List Int)) ([]:(List Int)) [a1]).bind λr2=>
 f9 r2.1 (if¬(r2.2.2=0) then(some (0,0,r2.2.2)) else(none)) (λq3=>if¬(r2.2.2=0) then(some (0,0,r2.2.2)) else(((my k a0 a1 r2 q3 k (([]:(List Int)),0)):Option ((List Int))).bind λx5=>
 (mg k x5).bind λc=>
 if(r2.2.1.length:Int)≤c then(some (0,0,11)) else((gu k x5 c).bind λe=>
 some (e,c,0))))
theorem zX(k:Nat)(a0:ae)(a1:Int)(r:Int×Int×Int)(h:uM k a0 a1=some r):
 bP (dN Tryz.prog) 49 [.rep au a0,I a1] [] (λ_:Unit=>(bD [I r.1,I r.2.1,I r.2.2],[])):=by
 unfold uM at h
 replace h:=be h
 refine bP.of 71 Tryz.func49 rfl Tryz.ntmps49 rfl λS w0=>?_
 refine sr ?_
 refine bx λb1=>?_
 refine cq ?_
 refine cq ?_
 refine cq ?_
 refine nt ?_
 refine sr ?_
 refine lo iM ?_
 refine mq ?_
 refine ja (bj (t:=Ti) [(.tmp 18,_)] [a1] rfl rfl dL (.cons rfl .int .nil) rfl rfl) ?_
 obtain⟨r2,We,h⟩:=aa h
 have s:=nF k a0 ([]:(List Int)) ([]:(List Int)) [a1] r2 We
 rcases hr:r2.1 with _ |q3
 .
  rw [hr] at h s;replace h:=ve h;refine aN (Δ:=[]) (F:=_) (λ_ _ _=>ah rfl _) rfl rfl (bV (N:=[(.tmp 17,.rep au a0),(.const (.slice none 0 0),.eq (.slice none 0 0)),(.const (.slice none 0 0),.eq (.slice none 0 0)),(.tmp 19,.rep Tl [a1])]) (aX [.tmp 17,.const (.slice none 0 0),.const (.slice none 0 0),.tmp 19] rfl rfl FH rfl s) λ_ _ _ hn=>⟨hn.1,(aD (t:=Tl) (x:=([]:(List Int))) .nil rfl rfl hn.2.1),(aD (t:=Tl) (x:=([]:(List Int))) .nil rfl rfl hn.2.2.1),hn.2.2.2.1,trivial⟩) ⟨rfl,rfl,rfl,rfl,trivial⟩ λ_=>?_;refine mq ?_;refine xr ?_;refine xr ?_;refine xr ?_;refine aq ?_;refine aq ?_;refine aq (nt (aj (sr ?_)));refine mq ?_;refine jb (fB rfl) ?_;refine nt (cn h (λh=>?_) (λh=>?_))
  .refine sr (mq ?_);refine cq ?_;refine cq ?_;refine aq (nt (rx ?_));cases h;exact aQ () [_,_,_] 0 ⟨rfl,rfl,rfl,trivial⟩ rfl
  .cases h
 .
  rw [hr] at h s;replace h:=vd h;refine aN (Δ:=[]) (F:=_) (λ_ _ _=>ah rfl _) rfl rfl (bV (N:=[(.tmp 17,.rep au a0),(.const (.slice none 0 0),.eq (.slice none 0 0)),(.const (.slice none 0 0),.eq (.slice none 0 0)),(.tmp 19,.rep Tl [a1])]) (aX [.tmp 17,.const (.slice none 0 0),.const (.slice none 0 0),.tmp 19] rfl rfl FH rfl s) λ_ _ _ hn=>⟨hn.1,(aD (t:=Tl) (x:=([]:(List Int))) .nil rfl rfl hn.2.1),(aD (t:=Tl) (x:=([]:(List Int))) .nil rfl rfl hn.2.2.1),hn.2.2.2.1,trivial⟩) ⟨rfl,rfl,rfl,rfl,trivial⟩ λz4=>?_;refine mq ?_;refine xr ?_;refine xr ?_;refine xr ?_;refine aq ?_;refine aq ?_;refine aq (nt (aj (sr ?_)));refine mq ?_;refine jb (fB rfl) ?_;refine nt (cn h (λh=>?_) (λh=>?_))
  .refine sr (mq ?_);refine cq ?_;refine cq ?_;refine aq (nt (rx ?_));cases h;exact aQ () [_,_,_] 0 ⟨rfl,rfl,rfl,trivial⟩ rfl
  .refine sk (sr (cq (nt ?_)));refine aJ (Z:=Value) (α:=(List Int)) (λz6 x5=>[(8,.rep (.slice (.int .u8)) r2.2.1),(10,.eq z6)]) (λz6 x5=>[.sl z6 3 Ti x5,.inv z4.2 (bN k q3)]) h (λK h=>?_) (λz6 x5 h=>?_)
   .refine sr (fl im ?_);refine fr 2 ?_;refine lo cF ?_;refine fq rfl ?_;refine nt (ai (ik (SE.nil 3 Ti) ?_));refine aG (λz8 y7=>[(1,I a1),(2,Pt b1),(7,.eq (.pointer (some ⟨z4.1,0,none⟩))),(8,.rep (.slice (.int .u8)) r2.2.1),(10,.eq z8),(28,I a0.1),(29,I y7.2)]) (λz8 y7=>[.obj b1 26 (.rep au a0),.obj z4.1 125 (aO q3 z4.2),.sl z8 3 Ti y7.1,.inv z4.2 (bN k q3)]) (my k a0 a1 r2 q3) k (.slice none 0 0) (([]:(List Int)),0) (λ_=>rfl) h (SE.fin [1,2,0,3] ⟨rfl,rfl,rfl,rfl,rfl,rfl,rfl,trivial⟩ rfl) (λn z8 y7 h=>?_);unfold my at h;refine sr (jb (bA rfl) ?_);refine nt (aj (ci h (λh=>?_) (λh=>?_)))
    .refine sk (aJ (Z:=Value) (α:=(List Int)) (λe x9=>[(1,I a1),(2,Pt b1),(7,.eq (.pointer (some ⟨z4.1,0,none⟩))),(8,.rep (.slice (.int .u8)) r2.2.1),(10,.eq e),(28,I a0.1),(29,I y7.2)]) (λe x9=>[.obj b1 26 (.rep au a0),.obj z4.1 125 (aO q3 z4.2),.sl e 3 Ti x9,.inv z4.2 (bN k q3)]) h (λK h=>?_) (λe x9 h=>?_))
     .refine ai (sr (mq ?_));refine aq (nt (sr ?_));refine cq (nt ?_);refine aJ (Z:=Unit) (α:=Int) (λE j=>[(1,I a1),(2,Pt b1),(7,.eq (.pointer (some ⟨z4.1,0,none⟩))),(8,.rep (.slice (.int .u8)) r2.2.1),(10,.eq z8),(12,I j),(28,I a0.1),(29,I y7.2)]) (λE j=>[.obj b1 26 (.rep au a0),.obj z4.1 125 (aO q3 z4.2),.sl z8 3 Ti y7.1,.inv z4.2 (bN k q3)]) h (λK h=>?_) (λE j h=>?_)
      .refine sr (mq ?_);refine ol A1 ?_;refine fq rfl ?_;refine nt (ai (aG (λD c=>[(1,I a1),(2,Pt b1),(7,.eq (.pointer (some ⟨z4.1,0,none⟩))),(8,.rep (.slice (.int .u8)) r2.2.1),(10,.eq z8),(11,I y7.2),(12,I c.1),(28,I a0.1),(29,I y7.2),(32,.rep (.slice (.int .u8)) r2.2.1),(33,I (r2.2.1.length:Int)),(34,I c.2)]) (λD c=>[.obj b1 26 (.rep au a0),.obj z4.1 125 (aO q3 z4.2),.sl z8 3 Ti y7.1,.inv z4.2 (bN k q3)]) (mt k a0 a1 r2 q3 y7) k () (0,0) (λ_=>rfl) h (SE.fin [0,1,2,3] ⟨rfl,rfl,rfl,rfl,rfl,rfl,rfl,rfl,rfl,rfl,rfl,rfl,trivial⟩ rfl) (λn D c h=>?_)));unfold mt at h;refine sr (jb (bA rfl) ?_);refine nt (aj (ci h (λh=>?_) (λh=>?_)))
       .refine sk (aJ (Z:=Unit) (α:=Int) (λy l=>[(1,I a1),(2,Pt b1),(7,.eq (.pointer (some ⟨z4.1,0,none⟩))),(8,.rep (.slice (.int .u8)) r2.2.1),(10,.eq z8),(11,I y7.2),(12,I l),(28,I a0.1),(29,I y7.2),(32,.rep (.slice (.int .u8)) r2.2.1),(33,I (r2.2.1.length:Int)),(34,I c.2)]) (λy l=>[.obj b1 26 (.rep au a0),.obj z4.1 125 (aO q3 z4.2),.sl z8 3 Ti y7.1,.inv z4.2 (bN k q3)]) h (λK h=>?_) (λy l h=>?_))
        .refine ai (sr ?_);obtain⟨V9,gw,h⟩:=aa h;refine jb (aW (t:=(.int .u8)) rfl A1 qi gw) ?_;refine ja (av (t:=(.int .u8)) rfl qi rfl) ?_;refine aq (nt (aj ?_));refine co ?_;refine dm ?_;refine dm ?_;obtain⟨Wc,qt,h⟩:=aa h;refine QH 1 3 rfl rfl (by kernel_rfl) rfl rfl rfl (aX [.tmp 38,.tmp 39] rfl rfl FI rfl (pH k q3 z4.1 z4.2 V9 Wc qt)) ⟨rfl,rfl,trivial⟩ ?_;refine dm ?_;obtain⟨Wh,Y,h⟩:=aa h;refine db (oO (t:=Tr) rfl Kz jv rfl rfl (t6) Y) ?_;refine dm ?_;obtain⟨Wg,X,h⟩:=aa h;refine db (oO (t:=Ti) rfl Db cF rfl rfl (λ_=>rfl) X) ?_;refine da (aF rfl yt) ?_;refine ea 0 (ax rfl cF ny rfl) ?_;refine df dz ?_;refine jb (kG rfl) ?_;refine nt (ci h (λh=>?_) (λh=>?_))
         .refine ab (mq ?_);obtain⟨V8,U,h⟩:=aa h;refine jb (bp rfl U) ?_;refine aq (aH (bn ?_));exact jz ((),V8) h [0,1,2,3]
         .refine bg (bn ?_);exact jz ((),c.1) h [0,1,2,3]
        .refine ab ?_;obtain⟨zM,Q,h⟩:=aa h;refine jb (bp rfl Q) ?_;refine mq (nl ?_);exact jz ((),(l,zM)) h [0,1,2,3]
       .refine xa ?_;exact jz ((),c.1) h [0,1,2,3]
      .refine ab ?_;iterate 3 refine mq ?_
       refine ol A1 ?_;refine mq ?_;obtain⟨J,O,h⟩:=aa h;refine jb (dM rfl O) ?_;refine jb (H7 rfl rfl) ?_;refine ja (bj (t:=Ti) [(.tmp 57,_)] [sY j J] rfl rfl dL (.cons rfl .int .nil) rfl rfl) ?_;obtain⟨Wi,mc,h⟩:=aa h;refine fr 2 ?_;refine dS rfl rfl rfl (cg rfl rfl dL (am mc)) ⟨rfl,rfl,trivial⟩ λWa=>?_;refine aq (aH (bn ?_));exact jz (Wa,y7.1++[sY j J]) h [1,2,0,3]
     .refine ab ?_;obtain⟨zz,M,h⟩:=aa h;refine jb (bp rfl M) ?_;refine mq (nl ?_);exact jz (e,(x9,zz)) h [0,1,2,3]
    .refine xa ?_;exact jz (z8,y7.1) h [2,3]
   .refine sr (mq ?_);obtain⟨u,pq,h⟩:=aa h;refine ka (g9 (N:=[(.tmp 61,.eq z6)]) (ay [.tmp 61] rfl rfl SD rfl (oD k x5 u pq)) (λ_ _ _ hv hn=>⟨(lend hn.1 hv),trivial⟩) (λ_=>⟨rfl,np⟩)) ?_;refine aq (nt (aj (sr ?_)));iterate 2 refine mq ?_
    refine ol A1 ?_;refine jb (kG rfl) ?_;refine nt (ci h (λh=>?_) (λh=>?_))
    .refine sr (cq ?_);refine cq ?_;refine cq (nt (rx ?_));cases h;exact aQ () [_,_,_] 0 ⟨rfl,rfl,rfl,trivial⟩ rfl
    .refine sk (sr ?_);iterate 2 refine mq ?_
     obtain⟨Wb,mw,h⟩:=aa h;refine kb (g9 (N:=[(.tmp 67,.eq z6),(.tmp 68,I u)]) (ay [.tmp 67,.tmp 68] rfl rfl Sz rfl (mX k x5 u Wb mw)) (λ_ _ _ hv hn=>⟨(lend hn.1 hv),hn.2.1,trivial⟩) (λ_=>⟨rfl,np⟩)) ?_;refine mq ?_;refine aq ?_;refine aq ?_;refine cq (nt (aA ?_));cases h;exact aQ () [_,_,_] 0 ⟨rfl,rfl,rfl,trivial⟩ rfl
def jM(k:Nat)(a1:Int)(a2:Int)(y4:(List (List (List Int)))×Int)(h:(List Int)):Nat->((List Int)×Int)->Option (List Int)
 |0,_=>none
 |n+1,c=>
  if c.2 < (h.length:Int) then((((aR h c.2).bind λe=>
  ((if y4.2 < a1 then(some true) else((fa k a2 e).bind λs=>
  some (!s))):Option (Bool)).bind λl=>
  if l=true then((cM (bQ (length c.1+length [e]))).bind λ_=>
  some (c.1++[e])) else(some c.1)):Option ((List Int))).bind λr=>
  (ck (c.2+1)).bind λj=>
  jM k a1 a2 y4 h n (r,j)) else(some c.1)
def jN(k:Nat)(a1:Int)(a2:Int)(y4:(List (List (List Int)))×Int)(x8:(List (List Int))):Nat->((List (List Int))×Int)->Option (List (List Int))
 |0,_=>none
 |n+1,c=>
  if c.2 < (x8.length:Int) then((((aR x8 c.2).bind λj=>
  ((jM k a1 a2 y4 j k (([]:(List Int)),0)):Option ((List Int))).bind λe=>
  (cM (bQ (length c.1+length [e]))).bind λ_=>
  some (c.1++[e])):Option ((List (List Int)))).bind λl=>
  (ck (c.2+1)).bind λh=>
  jN k a1 a2 y4 x8 n (l,h)) else(some c.1)
def jO(k:Nat)(a0:ae)(a1:Int)(a2:Int):Nat->((List (List (List Int)))×Int)->Option (List (List (List Int)))
 |0,_=>none
 |n+1,y4=>
  if y4.2 < (a0.2.2.2.2.1.length:Int) then((((aR a0.2.2.2.2.1 y4.2).bind λx8=>
  ((jN k a1 a2 y4 x8 k (([]:(List (List Int))),0)):Option ((List (List Int)))).bind λx9=>
  (cM (bQ (length y4.1+length [x9]))).bind λ_=>
  some (y4.1++[x9])):Option ((List (List (List Int))))).bind λx6=>
  (ck (y4.2+1)).bind λc=>
  jO k a0 a1 a2 n (x6,c)) else(some y4.1)
def nG(k:Nat)(a0:ae)(a1:Int)(a2:Int):Option (Option ae):=
 ((jO k a0 a1 a2 k (([]:(List (List (List Int)))),0)):Option ((List (List (List Int))))).bind λx2=>
 (jk k (a0.1,a0.2.1,a0.2.2.1,a0.2.2.2.1,x2,a0.2.2.2.2.2)).bind λc=>
 f9 c (some none) (λe=>some (some e))
theorem vX(k:Nat)(a0:ae)(a1:Int)(a2:Int)(r:(Option ae))(h:nG k a0 a1 a2=some r):
 dy Tryz.prog 83 [.rep au a0,I a1,.eq (.int .u8 a2)] [] (λz:Nat×Nat=>(bD [Ls r z.1],Lr r λq=>rf q z.1 z.2 k)):=by
 unfold nG at h
 replace h:=be h
 refine dy.of 69 Tryz.func83 rfl Tryz.ntmps83 rfl λS w0=>?_
 refine sr ?_
 refine bx λb1=>?_
 refine cq ?_
 refine nt ?_
 refine sr ?_
 refine fl eO ?_
 refine lo lZ ?_
 refine mq ?_
 refine ja (oN [.tmp 19] [] [(.int .u8 a2)] [] rfl rfl rfl) ?_
 refine aq ?_
 refine aq ?_
 refine nt ?_
 refine sr ?_
 refine fl eO ?_
 refine aM rfl rfl (aI rfl lZ rfl rfl rfl) ⟨rfl,rfl,trivial⟩ ?_
 refine nt ?_
 refine aJ (Z:=Value) (α:=(List (List (List Int)))) (λz3 x2=>[(3,Pt b1)]) (λz3 x2=>[.obj b1 26 (.agg (.pair (I a0.1) (.pair (I a0.2.1) (.pair (I a0.2.2.1) (.pair (I a0.2.2.2.1) (.pair (.eq z3) (Rs bf a0.2.2.2.2.2))))))),.sl z3 30 (.slice Tl) x2]) h (λK h=>?_) (λz3 x2 h=>?_)
 .
  refine sr (mq ?_);refine ol Bn ?_;refine fq rfl ?_;refine nt (ai (ik (SE.nil 30 (.slice Tl)) ?_));refine cj 1 rfl ?_;refine ik (ge (a:=.agg (.pair (.rep Ti a0.1) (.pair (.rep Ti a0.2.1) (.pair (.rep Ti a0.2.2.1) (.pair (.rep Ti a0.2.2.2.1) (.pair (.eq (.slice none 0 0)) (Rs bf a0.2.2.2.2.2))))))) (a':=.agg (.pair (I a0.1) (.pair (I a0.2.1) (.pair (I a0.2.2.1) (.pair (I a0.2.2.2.1) (.pair (.eq (.slice none 0 0)) (Rs bf a0.2.2.2.2.2))))))) (AE.agg (AE.pair AE.int (AE.pair AE.int (AE.pair AE.int (AE.pair AE.int AE.rfl)))))) ?_;refine aG (λz5 y4=>[(1,I a1),(3,Pt b1),(8,.eq (.func (.func 75) #[(.int .u8 a2)] #[])),(22,.rep (.slice (.slice Tl)) a0.2.2.2.2.1),(23,I (a0.2.2.2.2.1.length:Int)),(24,I y4.2)]) (λz5 y4=>[.obj b1 26 (.agg (.pair (I a0.1) (.pair (I a0.2.1) (.pair (I a0.2.2.1) (.pair (I a0.2.2.2.1) (.pair (.eq z5) (Rs bf a0.2.2.2.2.2))))))),.sl z5 30 (.slice Tl) y4.1]) (jO k a0 a1 a2) k (.slice none 0 0) (([]:(List (List (List Int)))),0) (λ_=>rfl) h (SE.fin [0,1] ⟨rfl,rfl,rfl,rfl,rfl,rfl,trivial⟩ rfl) (λn z5 y4 h=>?_);unfold jO at h;refine sr (jb (bA rfl) ?_);refine nt (aj (ci h (λh=>?_) (λh=>?_)))
  .refine sk (aJ (Z:=Value) (α:=(List (List (List Int)))) (λz7 x6=>[(1,I a1),(3,Pt b1),(8,.eq (.func (.func 75) #[(.int .u8 a2)] #[])),(22,.rep (.slice (.slice Tl)) a0.2.2.2.2.1),(23,I (a0.2.2.2.2.1.length:Int)),(24,I y4.2)]) (λz7 x6=>[.obj b1 26 (.agg (.pair (I a0.1) (.pair (I a0.2.1) (.pair (I a0.2.2.1) (.pair (I a0.2.2.2.1) (.pair (.eq z7) (Rs bf a0.2.2.2.2.2))))))),.sl z7 30 (.slice Tl) x6]) h (λK h=>?_) (λz7 x6 h=>?_))
   .refine ai (sr (mq ?_));obtain⟨x8,Wq,h⟩:=aa h;refine jb (aW (t:=(.slice Tl)) rfl Bn zr Wq) ?_;refine ja (av (t:=(.slice Tl)) rfl zr rfl) ?_;refine aq ?_;refine aq (nt (sr ?_));refine cq (nt ?_);refine aJ (Z:=Value) (α:=(List (List Int))) (λQ x9=>[(1,I a1),(3,Pt b1),(8,.eq (.func (.func 75) #[(.int .u8 a2)] #[])),(11,.eq Q),(22,.rep (.slice (.slice Tl)) a0.2.2.2.2.1),(23,I (a0.2.2.2.2.1.length:Int)),(24,I y4.2)]) (λQ x9=>[.obj b1 26 (.agg (.pair (I a0.1) (.pair (I a0.2.1) (.pair (I a0.2.2.1) (.pair (I a0.2.2.2.1) (.pair (.eq z5) (Rs bf a0.2.2.2.2.2))))))),.sl z5 30 (.slice Tl) y4.1,.sl Q 22 Tl x9]) h (λK h=>?_) (λQ x9 h=>?_)
    .refine sr (mq ?_);refine ol oq ?_;refine fq rfl ?_;refine nt (ai (ik (SE.nil 22 Tl) ?_));refine aG (λe c=>[(1,I a1),(3,Pt b1),(8,.eq (.func (.func 75) #[(.int .u8 a2)] #[])),(9,I y4.2),(11,.eq e),(22,.rep (.slice (.slice Tl)) a0.2.2.2.2.1),(23,I (a0.2.2.2.2.1.length:Int)),(24,I y4.2),(29,.rep (.slice Tl) x8),(30,I (x8.length:Int)),(31,I c.2)]) (λe c=>[.obj b1 26 (.agg (.pair (I a0.1) (.pair (I a0.2.1) (.pair (I a0.2.2.1) (.pair (I a0.2.2.2.1) (.pair (.eq z5) (Rs bf a0.2.2.2.2.2))))))),.sl z5 30 (.slice Tl) y4.1,.sl e 22 Tl c.1]) (jN k a1 a2 y4 x8) k (.slice none 0 0) (([]:(List (List Int))),0) (λ_=>rfl) h (SE.fin [1,2,0] ⟨rfl,rfl,rfl,rfl,rfl,rfl,rfl,rfl,rfl,rfl,rfl,trivial⟩ rfl) (λn e c h=>?_);unfold jN at h;refine sr (jb (bA rfl) ?_);refine nt (aj (ci h (λh=>?_) (λh=>?_)))
     .refine sk (aJ (Z:=Value) (α:=(List (List Int))) (λE X=>[(1,I a1),(3,Pt b1),(8,.eq (.func (.func 75) #[(.int .u8 a2)] #[])),(9,I y4.2),(11,.eq E),(22,.rep (.slice (.slice Tl)) a0.2.2.2.2.1),(23,I (a0.2.2.2.2.1.length:Int)),(24,I y4.2),(29,.rep (.slice Tl) x8),(30,I (x8.length:Int)),(31,I c.2)]) (λE X=>[.obj b1 26 (.agg (.pair (I a0.1) (.pair (I a0.2.1) (.pair (I a0.2.2.1) (.pair (I a0.2.2.2.1) (.pair (.eq z5) (Rs bf a0.2.2.2.2.2))))))),.sl z5 30 (.slice Tl) y4.1,.sl E 22 Tl X]) h (λK h=>?_) (λE X h=>?_))
      .refine ai (sr ?_);obtain⟨u,V9,h⟩:=aa h;refine jb (aW (t:=Tl) rfl oq eo V9) ?_;refine ja (av (t:=Tl) rfl eo rfl) ?_;refine aq (nt (sr ?_));refine cq (nt ?_);refine aJ (Z:=Value) (α:=(List Int)) (λO M=>[(1,I a1),(3,Pt b1),(8,.eq (.func (.func 75) #[(.int .u8 a2)] #[])),(9,I y4.2),(11,.eq e),(14,.eq O),(22,.rep (.slice (.slice Tl)) a0.2.2.2.2.1),(23,I (a0.2.2.2.2.1.length:Int)),(24,I y4.2),(29,.rep (.slice Tl) x8),(30,I (x8.length:Int)),(31,I c.2)]) (λO M=>[.obj b1 26 (.agg (.pair (I a0.1) (.pair (I a0.2.1) (.pair (I a0.2.2.1) (.pair (I a0.2.2.2.1) (.pair (.eq z5) (Rs bf a0.2.2.2.2.2))))))),.sl z5 30 (.slice Tl) y4.1,.sl e 22 Tl c.1,.sl O 3 Ti M]) h (λK h=>?_) (λO M h=>?_)
       .refine sr (mq ?_);refine ol g7 ?_;refine fq rfl ?_;refine nt (ai (ik (SE.nil 3 Ti) ?_));refine aG (λl j=>[(1,I a1),(3,Pt b1),(8,.eq (.func (.func 75) #[(.int .u8 a2)] #[])),(9,I y4.2),(11,.eq e),(14,.eq l),(22,.rep (.slice (.slice Tl)) a0.2.2.2.2.1),(23,I (a0.2.2.2.2.1.length:Int)),(24,I y4.2),(29,.rep (.slice Tl) x8),(30,I (x8.length:Int)),(31,I c.2),(35,.rep Tl u),(36,I (u.length:Int)),(37,I j.2)]) (λl j=>[.obj b1 26 (.agg (.pair (I a0.1) (.pair (I a0.2.1) (.pair (I a0.2.2.1) (.pair (I a0.2.2.2.1) (.pair (.eq z5) (Rs bf a0.2.2.2.2.2))))))),.sl z5 30 (.slice Tl) y4.1,.sl e 22 Tl c.1,.sl l 3 Ti j.1]) (jM k a1 a2 y4 u) k (.slice none 0 0) (([]:(List Int)),0) (λ_=>rfl) h (SE.fin [1,2,3,0] ⟨rfl,rfl,rfl,rfl,rfl,rfl,rfl,rfl,rfl,rfl,rfl,rfl,rfl,rfl,rfl,trivial⟩ rfl) (λn l j h=>?_);unfold jM at h;refine sr (jb (bA rfl) ?_);refine nt (aj (ci h (λh=>?_) (λh=>?_)))
        .refine sk (aJ (Z:=Value) (α:=(List Int)) (λD U=>[(1,I a1),(3,Pt b1),(8,.eq (.func (.func 75) #[(.int .u8 a2)] #[])),(9,I y4.2),(11,.eq e),(14,.eq D),(22,.rep (.slice (.slice Tl)) a0.2.2.2.2.1),(23,I (a0.2.2.2.2.1.length:Int)),(24,I y4.2),(29,.rep (.slice Tl) x8),(30,I (x8.length:Int)),(31,I c.2),(35,.rep Tl u),(36,I (u.length:Int)),(37,I j.2)]) (λD U=>[.obj b1 26 (.agg (.pair (I a0.1) (.pair (I a0.2.1) (.pair (I a0.2.2.1) (.pair (I a0.2.2.2.1) (.pair (.eq z5) (Rs bf a0.2.2.2.2.2))))))),.sl z5 30 (.slice Tl) y4.1,.sl e 22 Tl c.1,.sl D 3 Ti U]) h (λK h=>?_) (λD U h=>?_))
         .refine ai (sr ?_);obtain⟨J,V8,h⟩:=aa h;refine jb (aW (t:=Ti) rfl g7 cF V8) ?_;refine ja (av (t:=Ti) rfl cF rfl) ?_;refine aq (nt ?_);refine aJ (Z:=Unit) (α:=Bool) (λmc gw=>[(1,I a1),(3,Pt b1),(8,.eq (.func (.func 75) #[(.int .u8 a2)] #[])),(9,I y4.2),(11,.eq e),(14,.eq l),(16,I J),(22,.rep (.slice (.slice Tl)) a0.2.2.2.2.1),(23,I (a0.2.2.2.2.1.length:Int)),(24,I y4.2),(29,.rep (.slice Tl) x8),(30,I (x8.length:Int)),(31,I c.2),(35,.rep Tl u),(36,I (u.length:Int)),(37,I j.2),(49,.eq (.bool gw))]) (λmc gw=>[.obj b1 26 (.agg (.pair (I a0.1) (.pair (I a0.2.1) (.pair (I a0.2.2.1) (.pair (I a0.2.2.2.1) (.pair (.eq z5) (Rs bf a0.2.2.2.2.2))))))),.sl z5 30 (.slice Tl) y4.1,.sl e 22 Tl c.1,.sl l 3 Ti j.1]) h (λK h=>?_) (λmc gw h=>?_)
          .refine ab ?_;iterate 2 refine mq ?_
           refine jb (bA rfl) ?_;refine mq ?_;refine cQ (s:=44) rfl (λhb=>?_) (λhb=>?_)
           .replace h:=eQ (ta hb) h;iterate 4 refine gn ?_
            refine pt (nl ?_);exact jz ((),true) h [0,1,2,3]
           .replace h:=c6 (tc hb) h;refine gm ?_;refine gm ?_;obtain⟨pq,Wg,h⟩:=aa h;refine gb (t4 (fs:=[(.int .u8 a2)]) (cs:=[]) (ags:=[I J]) [.tmp 46] rfl rfl Jc rfl (gV k a2 J pq Wg)) ?_;refine ga (ii rfl) ?_;refine pf (nl ?_);exact jz ((), !pq) h [0,1,2,3]
          .refine cv h (λh=>?_) (λh=>?_)
           .refine ab ?_;iterate 2 refine mq ?_
            refine ja (bj (t:=Ti) [(.tmp 51,_)] [J] rfl rfl dL (.cons rfl .int .nil) rfl rfl) ?_;obtain⟨Wt,Wc,h⟩:=aa h;refine fr 3 ?_;refine dS rfl rfl rfl (cg rfl rfl dL (am Wc)) ⟨rfl,rfl,trivial⟩ λWp=>?_;refine aq (aH (bn ?_));exact jz (Wp,j.1++[J]) h [1,2,3,0]
           .refine bg (bn ?_);exact jz (l,j.1) h [0,1,2,3]
         .refine ab ?_;obtain⟨Wj,zM,h⟩:=aa h;refine jb (bp rfl zM) ?_;refine mq (nl ?_);exact jz (D,(U,Wj)) h [0,1,2,3]
        .refine xa ?_;exact jz (l,j.1) h [0,1,2,3]
       .refine ab ?_;iterate 2 refine mq ?_
        refine fr 3 ?_;refine d4 (ip [14,56] ⟨rfl,rfl,trivial⟩) ?_;refine ja (bj (t:=Tl) [(.tmp 56,_)] [M] rfl rfl l7 (.cons rfl .rep .nil) rfl rfl) ?_;obtain⟨Ws,Wb,h⟩:=aa h;refine fr 2 ?_;refine dS rfl rfl rfl (cg rfl rfl l7 (am Wb)) ⟨rfl,rfl,trivial⟩ λWn=>?_;refine aq (aH (bn ?_));exact jz (Wn,c.1++[M]) h [1,2,0]
      .refine ab ?_;obtain⟨Wi,zz,h⟩:=aa h;refine jb (bp rfl zz) ?_;refine mq (nl ?_);exact jz (E,(X,Wi)) h [0,1,2]
     .refine xa ?_;exact jz (e,c.1) h [0,1,2]
    .refine ab (fl eO ?_);refine lo lZ ?_;refine mq ?_;refine fr 2 ?_;refine d4 (ip [11,62] ⟨rfl,rfl,trivial⟩) ?_;refine ja (bj (t:=(.slice Tl)) [(.tmp 62,_)] [x9] rfl rfl BI (.cons rfl .rep .nil) rfl rfl) ?_;obtain⟨u32,Wa,h⟩:=aa h;refine fr 1 ?_;refine dS rfl rfl rfl (cg rfl rfl BI (am Wa)) ⟨rfl,rfl,trivial⟩ λWm=>?_;refine fl eO ?_;refine qW λo34=>?_;refine fr 1 ?_;refine aM rfl rfl (aI rfl lZ o34 rfl rfl) ⟨rfl,rfl,trivial⟩ ?_;refine aH (bn ?_);exact jz (Wm,y4.1++[x9]) h [0,1]
   .refine ab ?_;obtain⟨Wh,qt,h⟩:=aa h;refine jb (bp rfl qt) ?_;refine mq (nl ?_);exact jz (z7,(x6,Wh)) h [0,1]
  .refine xa ?_;exact jz (z5,y4.1) h [0,1]
 .
  refine sr (fr 1 ?_);refine d4 (nT (off:=4) [] trivial rfl rfl) ?_;refine lo iM ?_;obtain⟨mw,We,h⟩:=aa h;have y:=oa k (a0.1,a0.2.1,a0.2.2.1,a0.2.2.2.1,x2,a0.2.2.2.2.2) mw We;rcases hr:mw with _ |Wu
  .rw [hr] at h y;replace h:=ve h;refine aN (Δ:=[]) (F:=_) (λ_ _ _=>ah rfl _) rfl rfl (bV (N:=[(.tmp 67,.agg (.pair (I a0.1) (.pair (I a0.2.1) (.pair (I a0.2.2.1) (.pair (I a0.2.2.2.1) (.pair (.rep (.slice (.slice Tl)) x2) (Rs bf a0.2.2.2.2.2)))))))]) (ay [.tmp 67] rfl rfl MV rfl y) λ_ _ _ hn=>⟨(aD (t:=au) (x:=(a0.1,a0.2.1,a0.2.2.1,a0.2.2.2.1,x2,a0.2.2.2.2.2)) (.agg (.pair .int (.pair .int (.pair .int (.pair .int (.pair .rep .rep)))))) trivial rfl hn.1),trivial⟩) ⟨rfl,trivial⟩ λ_=>?_;refine aq (nt (aA ?_));cases h;exact aQ (0,0) [.eq (.pointer none)] 0 ⟨rfl,trivial⟩ rfl
  .rw [hr] at h y;replace h:=vd h;refine aN (Δ:=[]) (F:=_) (λ_ _ _=>ah rfl _) rfl rfl (bV (N:=[(.tmp 67,.agg (.pair (I a0.1) (.pair (I a0.2.1) (.pair (I a0.2.2.1) (.pair (I a0.2.2.2.1) (.pair (.rep (.slice (.slice Tl)) x2) (Rs bf a0.2.2.2.2.2)))))))]) (ay [.tmp 67] rfl rfl MV rfl y) λ_ _ _ hn=>⟨(aD (t:=au) (x:=(a0.1,a0.2.1,a0.2.2.1,a0.2.2.2.1,x2,a0.2.2.2.2.2)) (.agg (.pair .int (.pair .int (.pair .int (.pair .int (.pair .rep .rep)))))) trivial rfl hn.1),trivial⟩) ⟨rfl,trivial⟩ λY=>?_;refine aq (nt (aA ?_));cases h;exact aQ (Y.1,Y.2) [.eq (.pointer (some ⟨Y.1,0,none⟩))] 2 ⟨rfl,trivial⟩ rfl
def ff(k:Nat)(a0:ae)(r1:(List (List Int)))(y5:Int):Nat->Int->Option (Except Bool Unit)
 |0,_=>none
 |n+1,c=>
  if c < a0.1 then((((aR r1 y5).bind λs=>
  (aR s c).bind λr=>
  if r < 0 then((ck (y5+1)).bind λl=>
  (aR r1 l).bind λj=>
  (aR j c).bind λh=>
  some (decide (h=0))) else(some false)):Option (Bool)).bind λu=>
  if u=true then(some (.error true)) else((ck (c+1)).bind λe=>
  ff k a0 r1 y5 n e)) else(some (.ok ()))
def fg(k:Nat)(a0:ae)(r1:(List (List Int))):Nat->Int->Option (Except Bool Unit)
 |0,_=>none
 |n+1,y5=>
  if y5 < (a0.2.2.2.2.1.length:Int) then(bE (α:=Unit) ((ck (y5+1)).bind λx9=>
  (aR r1 x9).bind λh=>
  (aR r1 y5).bind λc=>
  (cM (xM h/\xM c)).bind λ_=>
  if h=c then(some (.ok ())) else(ff k a0 r1 y5 k 0)) (λe=>some (.error e)) λ_=>
  (ck (y5+1)).bind λj=>
  fg k a0 r1 n j) else(some (.ok ()))
def jl(k:Nat)(a0:ae)(a1:Int)(a2:Int):Option Bool:=
 (ma k a0 a1).bind λr1=>
 bE (α:=Unit) (fg k a0 r1 k a2) (some) λ_=>
 some false
theorem oU(k:Nat)(a0:ae)(c z_a0:Nat)(a1:Int)(a2:Int)(r:Bool)(h:jl k a0 a1 a2=some r):
 bP (dN Tryz.prog) 85 [Pt c,.eq (.int .u8 a1),I a2] [.obj c 125 (aO a0 z_a0),.inv z_a0 (bN k a0)] (λ_:Unit=>(bD [.eq (.bool r)],[.obj c 125 (aO a0 z_a0),.inv z_a0 (bN k a0)])):=by
 unfold jl at h
 replace h:=be h
 refine bP.of 56 Tryz.func85 rfl Tryz.ntmps85 rfl λS w0=>?_
 refine sr ?_
 refine cq ?_
 refine nt ?_
 refine sr ?_
 iterate 2 refine mq ?_
 obtain⟨r1,zz,h⟩:=aa h
 have zM:=pH k a0 c z_a0 a1 r1 zz
 refine fr 1 ?_
 refine fr 1 ?_
 refine aN (Δ:=[_,_]) (F:=_) (λ_ _ _=>ah rfl _) rfl rfl (aX [.tmp 10,.tmp 11] rfl rfl FI rfl zM) ⟨rfl,rfl,trivial⟩ λ_=>?_
 refine aS rfl rfl rfl (ba rfl GA Jw) trivial λb2=>?_
 refine aM rfl rfl (aI rfl Hj rfl rfl rfl) ⟨rfl,rfl,trivial⟩ ?_
 refine d4 (jI (t:=(.arr 7 Tr)) (x:=r1) [7] .rep ⟨rfl,trivial⟩) ?_
 refine nt ?_
 refine dk (Z:=Unit) (α:=Unit) (λz4 x3=>[]) (λz4 x3=>[.obj c 125 (aO a0 z_a0),.inv z_a0 (bN k a0)]) (λe=>e=r) h (λe h=>Option.some.inj h) (λK hR h=>?_) (λz4 x3 h=>?_)
 .
  refine sr (mq ?_);refine aq (nt (ai ?_));refine aG (λz6 y5=>[(0,Pt c),(7,.at (.arr 7 Tr) r1),(8,I y5)]) (λz6 y5=>[.obj c 125 (aO a0 z_a0),.inv z_a0 (bN k a0)]) (fg k a0 r1) k () a2 (λ_=>rfl) h (SE.fin [0,1] ⟨rfl,rfl,rfl,trivial⟩ rfl) (λn z6 y5 h=>?_);unfold fg at h;refine aj (sr ?_);iterate 2 refine mq ?_
  refine ja (cO rfl) ?_;refine fl ic ?_;refine fl eO ?_;refine lo lZ ?_;refine ol Bn ?_;refine jb (bA rfl) ?_;refine nt (ci h (λh=>?_) (λh=>?_))
  .refine sk (dk (Z:=Unit) (α:=Unit) (λz8 x7=>[(0,Pt c),(7,.at (.arr 7 Tr) r1),(8,I y5)]) (λz8 x7=>[.obj c 125 (aO a0 z_a0),.inv z_a0 (bN k a0)]) (λe=>e=r) h (λe h=>hR e h) (λK hR h=>?_) (λz8 x7 h=>?_))
   .refine ai (aj (aj (co ?_)));refine dm ?_;obtain⟨x9,qt,h⟩:=aa h;refine db (bp rfl qt) ?_;obtain⟨We,gw,h⟩:=aa h;refine db (cC (t:=Tr) rfl Kz jv gw) ?_;refine da (av (t:=Tr) rfl jv rfl) ?_;refine dm ?_;obtain⟨Wc,Y,h⟩:=aa h;refine db (cC (t:=Tr) rfl Kz jv Y) ?_;refine da (av (t:=Tr) rfl jv rfl) ?_;refine df dz ?_;obtain⟨Wg,l,h⟩:=aa h;refine jb (H9 rfl (am l).1 (am l).2) ?_;refine nt (ci h (λh=>?_) (λh=>?_))
    .refine fD (bO (c7 (ao ?_)));exact jz ((),()) h [0,1]
    .refine sk (sr (mq ?_));refine ja (cO rfl) ?_;refine fl ic ?_;refine fl im ?_;refine lo cF ?_;refine fq rfl ?_;refine nt (ai (aG (λD j=>[(0,Pt c),(7,.at (.arr 7 Tr) r1),(8,I y5),(36,I a0.1),(37,I j)]) (λD j=>[.obj c 125 (aO a0 z_a0),.inv z_a0 (bN k a0)]) (ff k a0 r1 y5) k () 0 (λ_=>rfl) h (SE.fin [0,1] ⟨rfl,rfl,rfl,rfl,rfl,trivial⟩ rfl) (λn D j h=>?_)));unfold ff at h;refine sr (jb (bA rfl) ?_);refine nt (aj (ci h (λh=>?_) (λh=>?_)))
     .refine sk (aj (ai (sr (mq ?_))));refine aq (nt ?_);refine aJ (Z:=Unit) (α:=Bool) (λy u=>[(0,Pt c),(7,.at (.arr 7 Tr) r1),(8,I y5),(36,I a0.1),(37,I j),(54,.eq (.bool u))]) (λy u=>[.obj c 125 (aO a0 z_a0),.inv z_a0 (bN k a0)]) h (λK h=>?_) (λy u h=>?_)
      .refine ab ?_;iterate 2 refine mq ?_
       obtain⟨Wb,X,h⟩:=aa h;refine jb (cC (t:=Tr) rfl Kz jv X) ?_;obtain⟨Wa,U,h⟩:=aa h;refine jb (cC (t:=Ti) rfl Db cF U) ?_;refine ja (av (t:=Ti) rfl cF rfl) ?_;refine jb (bA rfl) ?_;refine mq ?_;refine cQ (s:=46) rfl (λhb=>?_) (λhb=>?_)
       .replace h:=eQ (ta hb) h;refine gm ?_;obtain⟨V9,Q,h⟩:=aa h;refine gb (bp rfl Q) ?_;refine gm ?_;obtain⟨V8,O,h⟩:=aa h;refine gb (cC (t:=Tr) rfl Kz jv O) ?_;obtain⟨pq,M,h⟩:=aa h;refine gb (cC (t:=Ti) rfl Db cF M) ?_;refine ga (av (t:=Ti) rfl cF rfl) ?_;refine gb (jg rfl) ?_;refine pt (nl ?_);exact jz ((),decide (pq=0)) h [0,1]
       .replace h:=c6 (tc hb) h;iterate 7 refine gn ?_
        refine pf (nl ?_);exact jz ((),false) h [0,1]
      .refine cv h (λh=>?_) (λh=>?_)
       .refine sr (cq (nt (aA (br (bh (br (bh (bo ?_))))))));obtain rfl:=hR _ h;exact aQ () [_] 2 ⟨rfl,trivial⟩ rfl
       .refine bg (aL (tn (ab ?_)));obtain⟨mw,J,h⟩:=aa h;refine jb (bp rfl J) ?_;refine mq (nl ?_);exact jz ((),mw) h [0,1]
     .refine fD (bO (bO (c7 (bn ?_))));exact jz ((),()) h [0,1]
   .refine ab (mq ?_);obtain⟨mc,E,h⟩:=aa h;refine jb (bp rfl E) ?_;refine aq (nl ?_);exact jz ((),mc) h [0,1]
  .refine xa ?_;exact jz ((),()) h [0,1]
 .
  refine sr (cq (nt (aA ?_)));cases h;exact aQ () [_] 2 ⟨rfl,trivial⟩ rfl
def nI(k:Nat)(a0:Int)(a1:ae)(a2:Int):Option Bool:=
 (jl k a1 a0 a2).bind λr1=>
 some r1
theorem tU(k:Nat)(a0:Int)(a1:ae)(c z_a1 j:Nat)(a2:Int)(e:Nat)(r:Bool)(h:nI k a0 a1 a2=some r):
 bP (dN Tryz.prog) 84 [.eq (.int .u8 a0),Pt j,Pt e] [.obj c 125 (aO a1 z_a1),.inv z_a1 (bN k a1),.obj j 72 (Pt c),.obj e 3 (I a2)] (λ_:Unit=>(bD [.eq (.bool r)],[.obj c 125 (aO a1 z_a1),.inv z_a1 (bN k a1),.obj j 72 (Pt c),.obj e 3 (I a2)])):=by
 unfold nI at h
 replace h:=be h
 refine bP.of 9 Tryz.func84 rfl Tryz.ntmps84 rfl λS w0=>?_
 refine sr ?_
 refine cq ?_
 refine nt ?_
 refine sr ?_
 refine fr 2 ?_
 refine lo BE ?_
 refine mq ?_
 refine fr 3 ?_
 refine lo cF ?_
 obtain⟨r1,l,h⟩:=aa h
 have n:=oU k a1 c z_a1 a0 a2 r1 l
 refine fr 3 ?_
 refine fr 3 ?_
 refine aN (Δ:=[_,_]) (F:=_) (λ_ _ _=>ah rfl _) rfl rfl (aX [.tmp 5,.tmp 6,.tmp 7] rfl rfl UR rfl n) ⟨rfl,rfl,rfl,trivial⟩ λ_=>?_
 refine aq ?_
 refine nt ?_
 refine aA ?_
 refine bM (SE.fin (Γ':=[(4,_)]) [0,1,3,2] ⟨rfl,trivial⟩ rfl) ?_
 cases h
 exact aQ () [_] 4 ⟨rfl,trivial⟩ rfl
def eV(k:Nat)(a0:(List Int))(a1_0:ae)(a1_1:Int):Nat->Int->Option (Except Int Unit)
 |0,_=>none
 |n+1,y3=>
  if y3 < (a0.length:Int) then((aR a0 y3).bind λx5=>
  (nI k x5 a1_0 a1_1).bind λr6=>
  if r6=true then(some (.error y3)) else((ck (y3+1)).bind λx7=>
  eV k a0 a1_0 a1_1 n x7)) else(some (.ok ()))
def i9(k:Nat)(a0:(List Int))(a1_0:ae)(a1_1:Int):Option Int:=
 bE (α:=Unit) (eV k a0 a1_0 a1_1 k 0) (some) λ_=>
 some (-1:Int)
theorem oH(k:Nat)(a0:(List Int))(a1_0:ae)(b_a1_0 z_a1_0 c_a1_0:Nat)(a1_1:Int)(c_a1_1:Nat)(r:Int)(h:i9 k a0 a1_0 a1_1=some r):
 bP (dN Tryz.prog) 114 [.rep (.slice (.int .u8)) a0,.eq (.func (.func 84) #[] #[(Pv c_a1_0),(Pv c_a1_1)])] [.obj b_a1_0 125 (aO a1_0 z_a1_0),.inv z_a1_0 (bN k a1_0),.obj c_a1_0 72 (Pt b_a1_0),.obj c_a1_1 3 (I a1_1)] (λ_:Unit=>(bD [I r],[.obj b_a1_0 125 (aO a1_0 z_a1_0),.inv z_a1_0 (bN k a1_0),.obj c_a1_0 72 (Pt b_a1_0),.obj c_a1_1 3 (I a1_1)])):=by
 unfold i9 at h
 replace h:=be h
 refine bP.of 19 Tryz.func114 rfl Tryz.ntmps114 rfl λS w0=>?_
 refine sr ?_
 refine cq ?_
 refine nt ?_
 refine dk (Z:=Unit) (α:=Unit) (λz2 x1=>[]) (λz2 x1=>[.obj b_a1_0 125 (aO a1_0 z_a1_0),.inv z_a1_0 (bN k a1_0),.obj c_a1_0 72 (Pt b_a1_0),.obj c_a1_1 3 (I a1_1)]) (λe=>e=r) h (λe h=>Option.some.inj h) (λK hR h=>?_) (λz2 x1 h=>?_)
 .
  refine sr (mq ?_);refine ol A1 ?_;refine fq rfl ?_;refine nt (ai (aG (λz4 y3=>[(0,.rep (.slice (.int .u8)) a0),(1,.eq (.func (.func 84) #[] #[(Pv c_a1_0),(Pv c_a1_1)])),(7,I (a0.length:Int)),(8,I y3)]) (λz4 y3=>[.obj c_a1_0 72 (Pt b_a1_0),.obj b_a1_0 125 (aO a1_0 z_a1_0),.obj c_a1_1 3 (I a1_1),.inv z_a1_0 (bN k a1_0)]) (eV k a0 a1_0 a1_1) k () 0 (λ_=>rfl) h (SE.fin [2,0,3,1] ⟨rfl,rfl,rfl,rfl,trivial⟩ rfl) (λn z4 y3 h=>?_)));unfold eV at h;refine sr (jb (bA rfl) ?_);refine nt (aj (ci h (λh=>?_) (λh=>?_)))
  .refine sk (aj (ai (sr (mq ?_))));refine aq (nt (sr ?_));iterate 3 refine mq ?_
   obtain⟨x5,j,h⟩:=aa h;refine jb (aW (t:=(.int .u8)) rfl A1 qi j) ?_;refine ja (av (t:=(.int .u8)) rfl qi rfl) ?_;obtain⟨r6,l,h⟩:=aa h;refine fr 2 ?_;refine fr 1 ?_;refine fr 3 ?_;refine fr 3 ?_;refine aN (Δ:=[_,_,_,_]) (F:=_) (λ_ _ _=>ah rfl _) rfl rfl (nc (fs:=[]) (cs:=[(Pv c_a1_0),(Pv c_a1_1)]) (ags:=[.eq (.int .u8 x5)]) [.tmp 15] rfl rfl US rfl (tU k x5 a1_0 b_a1_0 z_a1_0 c_a1_0 a1_1 c_a1_1 r6 l)) ⟨rfl,rfl,trivial⟩ λ_=>?_;refine nt (cv h (λh=>?_) (λh=>?_))
   .refine sr (mq ?_);refine aq (nt (aA (br (bh (bo ?_)))));obtain rfl:=hR _ h;exact aQ () [_] 4 ⟨rfl,trivial⟩ rfl
   .refine bg (aL (tn (ab ?_)));obtain⟨x7,c,h⟩:=aa h;refine jb (bp rfl c) ?_;refine mq (nl ?_);exact jz ((),x7) h [2,0,3,1]
  .refine xa ?_;exact jz ((),()) h [1,3,0,2]
 .
  refine sr (cq (nt (aA ?_)));cases h;exact aQ () [_] 4 ⟨rfl,trivial⟩ rfl
def eW(k:Nat)(a0:(List Int))(a1_0:ae)(a1_1:Int):Option Bool:=
 (i9 k a0 a1_0 a1_1).bind λr1=>
 some (decide (0≤r1))
theorem mY(k:Nat)(a0:(List Int))(a1_0:ae)(b_a1_0 z_a1_0 c_a1_0:Nat)(a1_1:Int)(c_a1_1:Nat)(r:Bool)(h:eW k a0 a1_0 a1_1=some r):
 bP (dN Tryz.prog) 86 [.rep (.slice (.int .u8)) a0,.eq (.func (.func 84) #[] #[(Pv c_a1_0),(Pv c_a1_1)])] [.obj b_a1_0 125 (aO a1_0 z_a1_0),.inv z_a1_0 (bN k a1_0),.obj c_a1_0 72 (Pt b_a1_0),.obj c_a1_1 3 (I a1_1)] (λ_:Unit=>(bD [.eq (.bool r)],[.obj b_a1_0 125 (aO a1_0 z_a1_0),.inv z_a1_0 (bN k a1_0),.obj c_a1_0 72 (Pt b_a1_0),.obj c_a1_1 3 (I a1_1)])):=by
 unfold eW at h
 replace h:=be h
 refine bP.of 9 Tryz.func86 rfl Tryz.ntmps86 rfl λS w0=>?_
 refine sr ?_
 refine cq ?_
 refine nt ?_
 refine sr ?_
 iterate 2 refine mq ?_
 obtain⟨r1,c,h⟩:=aa h
 have e:=oH k a0 a1_0 b_a1_0 z_a1_0 c_a1_0 a1_1 c_a1_1 r1 c
 refine fr 3 ?_
 refine fr 3 ?_
 refine fr 3 ?_
 refine fr 3 ?_
 refine aN (Δ:=[_,_,_,_]) (F:=_) (λ_ _ _=>ah rfl _) rfl rfl (aX [.tmp 5,.tmp 6] rfl rfl SV rfl e) ⟨rfl,rfl,trivial⟩ λ_=>?_
 refine jb (kG rfl) ?_
 refine aq ?_
 refine nt ?_
 refine aA ?_
 cases h
 exact aQ () [_] 4 ⟨rfl,trivial⟩ rfl
def qJ(k:Nat)(a0:ae)(a1:Int):Option ((List Int)×Int):=
 (ng k a0 ([]:(List Int)) [a1] ([]:(List Int))).bind λr3=>
 f9 r3.1 (if¬(r3.2.2=0) then(some (([]:(List Int)),r3.2.2)) else(none)) (λq4=>if¬(r3.2.2=0) then(some (([]:(List Int)),r3.2.2)) else((j8 k (lx (λ(c:(List Int)) (e:Int)=>
  (nG k a0 a1 e).bind λr=>
  f9 r (none) (λs=>(eW k r3.2.1 s a1).bind λn=>
  if¬(n=true) then((cM (bQ (length c+length [e]))).bind λ_=>
  some (c++[e],true)) else(some (c,true))))) a0.1 (([]:(List Int)),false)).bind λh=>
 if h.2=true then(none) else((qG k h.1).bind λl=>
 (ji k l).bind λj=>
 some (j,0))))
theorem vZ(k:Nat)(a0:ae)(a1:Int)(r:(List Int)×Int)(h:qJ k a0 a1=some r):
 bP (dN Tryz.prog) 50 [.rep au a0,I a1] [] (λ_:Unit=>(bD [.rep Tl r.1,I r.2],[])):=by
 unfold qJ at h
 replace h:=be h
 refine vD 44 Tryz.func50 rfl Tryz.ntmps50 rfl λS w0=>?_
 refine sr ?_
 refine bx λb1=>?_
 refine bx λb2=>?_
 refine cq ?_
 refine cq ?_
 refine nt ?_
 refine sr ?_
 refine fr 1 ?_
 refine lo iM ?_
 refine fr 1 ?_
 refine lo cF ?_
 refine ja (bj (t:=Ti) [(.tmp 15,_)] [a1] rfl rfl dL (.cons rfl .int .nil) rfl rfl) ?_
 obtain⟨r3,V8,h⟩:=aa h
 have y:=nF k a0 ([]:(List Int)) [a1] ([]:(List Int)) r3 V8
 rcases hr:r3.1 with _ |q4
 .
  rw [hr] at h y;replace h:=ve h;refine aN (Δ:=[]) (F:=_) (λ_ _ _=>ah rfl _) rfl rfl (bV (N:=[(.tmp 14,.rep au a0),(.const (.slice none 0 0),.eq (.slice none 0 0)),(.tmp 16,.rep Tl [a1]),(.const (.slice none 0 0),.eq (.slice none 0 0))]) (aX [.tmp 14,.const (.slice none 0 0),.tmp 16,.const (.slice none 0 0)] rfl rfl FH rfl y) λ_ _ _ hn=>⟨hn.1,(aD (t:=Tl) (x:=([]:(List Int))) .nil rfl rfl hn.2.1),hn.2.2.1,(aD (t:=Tl) (x:=([]:(List Int))) .nil rfl rfl hn.2.2.2.1),trivial⟩) ⟨rfl,rfl,rfl,rfl,trivial⟩ λ_=>?_;refine mq ?_;refine xr ?_;refine xr ?_;refine xr ?_;refine aS rfl rfl rfl (ba rfl KD Nr) trivial λb5=>?_;refine aq ?_;refine aM rfl rfl (aI rfl xC rfl rfl rfl) ⟨rfl,rfl,trivial⟩ ?_;refine aq (nt (aj (sr ?_)));refine mq ?_;refine jb (fB rfl) ?_;refine nt (cn h (λh=>?_) (λh=>?_))
  .refine sr (mq ?_);refine cq ?_;refine aq (nt (rx ?_));refine bM (fA (t:=Tl) (x:=([]:(List Int))) 4 rfl .nil rfl rfl) ?_;refine A5 ?_;cases h;exact rb
  .cases h
 .
  rw [hr] at h y;replace h:=vd h;refine aN (Δ:=[]) (F:=_) (λ_ _ _=>ah rfl _) rfl rfl (bV (N:=[(.tmp 14,.rep au a0),(.const (.slice none 0 0),.eq (.slice none 0 0)),(.tmp 16,.rep Tl [a1]),(.const (.slice none 0 0),.eq (.slice none 0 0))]) (aX [.tmp 14,.const (.slice none 0 0),.tmp 16,.const (.slice none 0 0)] rfl rfl FH rfl y) λ_ _ _ hn=>⟨hn.1,(aD (t:=Tl) (x:=([]:(List Int))) .nil rfl rfl hn.2.1),hn.2.2.1,(aD (t:=Tl) (x:=([]:(List Int))) .nil rfl rfl hn.2.2.2.1),trivial⟩) ⟨rfl,rfl,rfl,rfl,trivial⟩ λz6=>?_;refine mq ?_;refine xr ?_;refine xr ?_;refine xr ?_;refine aS rfl rfl rfl (ba rfl KD Nr) trivial λb7=>?_;refine aq ?_;refine aM rfl rfl (aI rfl xC rfl rfl rfl) ⟨rfl,rfl,trivial⟩ ?_;refine aq (nt (aj (sr ?_)));refine mq ?_;refine jb (fB rfl) ?_;refine nt (cn h (λh=>?_) (λh=>?_))
  .refine sr (mq ?_);refine cq ?_;refine aq (nt (rx ?_));refine bM (fA (t:=Tl) (x:=([]:(List Int))) 4 rfl .nil rfl rfl) ?_;refine A5 ?_;cases h;exact rb
  .refine sk (sr (aS rfl rfl rfl (ba rfl KD Nr) trivial λb8=>?_));refine nt (aj (sr (fl im ?_)));refine fr 5 ?_;refine lo cF ?_;refine aS rfl rfl rfl (ay [.tmp 25] rfl rfl SA rfl (rN a0.1)) ⟨rfl,trivial⟩ λb9=>?_;refine nt (ai (ik (SE.nil 73 (.int .u8)) ?_));refine cj 7 rfl ?_;refine cj 7 rfl ?_;refine cj 7 rfl ?_;refine cj 7 rfl ?_;refine cj 4 rfl ?_;refine cj 7 rfl ?_;refine cj 7 rfl ?_;refine cj 7 rfl ?_;obtain⟨u,pq,h⟩:=aa h;refine nV (Δ:=[.obj b9 3 (I a0.1),.obj b1 26 (.rep au a0),.obj b8 76 (.eq (.slice none 0 0)),.sl (.slice none 0 0) 73 (.int .u8) ([]:(List Int)),.obj b7 76 (.rep (.slice (.int .u8)) r3.2.1),.obj z6.1 125 (aO q4 z6.2),.inv z6.2 (bN k q4),.obj b2 3 (I a1)]) (F:=[]) (X:=Value) (J:=λ_=>MF u.2) (E:=λc=>[.obj b9 3 (I a0.1),.obj b1 26 (.rep au a0),.obj b8 76 (.eq c),.sl c 73 (.int .u8) u.1,.obj b7 76 (.rep (.slice (.int .u8)) r3.2.1),.obj z6.1 125 (aO q4 z6.2),.inv z6.2 (bN k q4),.obj b2 3 (I a1)]) (r0:=λ_=>.tup .any) rfl rfl Ov (λrec hp ha hb hs hpe hN hv l=>?_) (λdl c=>qj (λhj=>?_) (λhj=>?_))
   .rcases rec with⟨st0,pe0,fn0,tm0,ps0,as0,bd0,df0⟩;dsimp only at hp ha hb hs hpe hN hv;subst hp hs hpe;have vN:yK tm0 [(2,Pt b1),(3,Pt b2),(7,Pt b7),(9,Pt b8)]:=⟨congrArg A.eq (hv 2 _ rfl).symm,congrArg A.eq (hv 3 _ rfl).symm,congrArg A.eq (hv 7 _ rfl).symm,congrArg A.eq (hv 9 _ rfl).symm,trivial⟩;refine bP.pick (M:=(dN Tryz.prog)) [1,0,2,3,4,5,6,7,8] [1,0,2,3,4,5,6,7,8] (oW (λ(c:Value) (q:(List Int)×Bool)=>[.raw l (.loop (jd ⟨.ready,none,fn0,tm0, #[27],as0,bd0,df0⟩ (MF q.2))),.obj b1 26 (.rep au a0),.obj b8 76 (.eq c),.sl c 73 (.int .u8) q.1,.obj b7 76 (.rep (.slice (.int .u8)) r3.2.1),.obj z6.1 125 (aO q4 z6.2),.inv z6.2 (bN k q4),.obj b2 3 (I a1)]) l (lx (λ(n:(List Int)) (j:Int)=>
    (nG k a0 a1 j).bind λs=>
    f9 s (none) (λO=>(eW k r3.2.1 O a1).bind λD=>
    if¬(D=true) then((cM (bQ (length n+length [j]))).bind λ_=>
    some (n++[j],true)) else(some (n,true))))) k a0.1 b9 (λc q p r' h=>?_) (.slice none 0 0) (([]:(List Int)),false) u pq) rfl (λ_=>rfl) (λ_=>rfl)
    obtain⟨rq,hq,h2,rfl⟩:=ql h;obtain⟨n,b5⟩:=q;obtain rfl:b5=false:=hq;replace h:=be h2;obtain⟨j,hpv⟩:∃x,x=p:=⟨_,rfl⟩;subst hpv;refine YT.pick (R':=(λc:Value=>(.eq (.bool rq.2),[.raw l (.loop (jd ⟨.ready,none,fn0,tm0, #[27],as0,bd0,df0⟩ (MF (!rq.2)))),.obj b1 26 (.rep au a0),.obj b8 76 (.eq c),.sl c 73 (.int .u8) rq.1,.obj b7 76 (.rep (.slice (.int .u8)) r3.2.1),.obj z6.1 125 (aO q4 z6.2),.inv z6.2 (bN k q4),.obj b2 3 (I a1)]))) [0,1,2,3,4,5,6,7] [0,1,2,3,4,5,6,7] (C9 ha hb (N:=44) (Γ:=[(2,Pt b1),(3,Pt b2),(7,Pt b7),(9,Pt b8)]) rfl hN (by decide) vN (λS w=>?_)) rfl (λ_=>rfl) (λ_=>rfl);refine ab (aq (nl ?_));refine vA rfl rfl ?_;refine ai (sr (fr 1 ?_));refine lo iM ?_;refine fr 7 ?_;refine lo cF ?_;refine mq ?_;obtain⟨s,mw,h⟩:=aa h;have e:=vX k a0 a1 j s mw;rcases hr:s with _ |O
    .rw [hr] at h e;replace h:=ve h;refine aN (Δ:=[]) (F:=_) (λ_ _ _=>ah rfl _) rfl rfl (ay [.tmp 28,.tmp 29,.tmp 30] rfl rfl Sr rfl e) ⟨rfl,rfl,rfl,trivial⟩ λ_=>?_;cases h
    .rw [hr] at h e;replace h:=vd h;refine aN (Δ:=[]) (F:=_) (λ_ _ _=>ah rfl _) rfl rfl (ay [.tmp 28,.tmp 29,.tmp 30] rfl rfl Sr rfl e) ⟨rfl,rfl,rfl,trivial⟩ λQ=>?_;refine aS rfl rfl rfl (ba rfl OL Qn) trivial λqt=>?_;refine aM rfl rfl (aI rfl BE rfl rfl rfl) ⟨rfl,rfl,trivial⟩ ?_;refine nt (sr (jb (oN [] [.tmp 11,.tmp 3] [] [(Pv qt),(Pv b2)] rfl rfl rfl) ?_));refine aq (nt (sr ?_));refine fr 8 ?_;refine lo xC ?_;refine mq ?_;obtain⟨D,mc,h⟩:=aa h;refine fr 4 ?_;refine fr 2 ?_;refine fr 4 ?_;refine fr 4 ?_;refine aN (Δ:=[_,_,_,_]) (F:=_) (λ_ _ _=>ah rfl _) rfl rfl (aX [.tmp 33,.tmp 34] rfl rfl UQ rfl (mY k r3.2.1 O Q.1 Q.2 qt a1 b2 D mc)) ⟨rfl,rfl,trivial⟩ λ_=>?_;refine ja (ii rfl) ?_;refine nt (cw h (λh=>?_) (λh=>?_))
     .refine ab (fr 7 ?_);refine lo xC ?_;refine mq ?_;refine ja (bj (t:=(.int .u8)) [(.tmp 38,_)] [j] rfl rfl Ld (.cons rfl .int .nil) rfl rfl) ?_;obtain⟨V9,Y,h⟩:=aa h;refine fr 8 ?_;refine dS rfl rfl rfl (cg rfl rfl Ld (am Y)) ⟨rfl,rfl,trivial⟩ λzz=>?_;refine qW λo22=>?_;refine fr 1 ?_;refine aM rfl rfl (aI rfl xC o22 rfl rfl) ⟨rfl,rfl,trivial⟩ ?_;refine aH (aL (aC 5 rfl ?_));refine aC 10 rfl ?_;refine aC 10 rfl ?_;refine aC 8 rfl ?_;refine aC 5 rfl ?_;refine aC 5 rfl ?_;refine aC 9 rfl ?_;refine aC 10 rfl ?_;cases h;exact lj zz 7 rfl
     .refine bg (aL (aC 3 rfl ?_));refine aC 10 rfl ?_;refine aC 10 rfl ?_;refine aC 6 rfl ?_;refine aC 10 rfl ?_;refine aC 10 rfl ?_;refine aC 9 rfl ?_;refine aC 10 rfl ?_;cases h;exact lj c 7 rfl
   .replace h:=c6 (KU hj) h;refine aL (tn (sr (fr 3 ?_)));refine lo xC ?_;obtain⟨U,gw,h⟩:=aa h;refine fr 4 ?_;refine kb (g9 (N:=[(.tmp 41,.eq c),(.func 88,.eq (.func (.func 88) #[] #[]))]) (ay [.tmp 41,.func 88] rfl rfl UP rfl (vY k u.1 U gw)) (λ_ _ _ hv hn=>⟨(lend hn.1 hv),hn.2.1,trivial⟩) (λ_=>⟨rfl,np⟩)) ?_;obtain⟨zM,Z,h⟩:=aa h;refine ja (ay [.tmp 42] rfl rfl P7 rfl (kC k U zM Z)) ?_;refine aq ?_;refine cq (nt (aA ?_));refine aC 2 rfl ?_;refine EJ ?_;cases h;exact rb
   .replace h:=eQ (KT hj) h;cases h
def rP(k:Nat):Option Bool:=
 (iT k ([]:(List bH))).bind λr1=>
 (iP k r1 [0]).bind λr2=>
 (iT k ([]:(List bH))).bind λr3=>
 (qK k r3).bind λr4=>
 (iT k ([]:(List bH))).bind λr5=>
 (sN k r5 2).bind λr6=>
 (iT k ([]:(List bH))).bind λr8=>
 (sO k r8 [0] 3).bind λr9=>
 (iT k ([]:(List bH))).bind λu=>
 (uM k u 2).bind λc=>
 (iT k ([]:(List bH))).bind λs=>
 (qJ k s 2).bind λe=>
 ((if r2.2=0 then(if r4.2=0 then(if r6.2=0 then(if r9.2=0 then(if c.2.2=0 then(if e.2=0 then(if r6.1=(1,3) then(if c.1=2 then(if c.2.1=2 then((jR k r2.1 [[1,(-1:Int),(-1:Int),(-1:Int)],[2,0,(-1:Int),(-1:Int)],[3,1,(-1:Int),(-1:Int)],[3,2,0,(-1:Int)],[(-1:Int),3,1,0]]).bind λr=>
 if r=true then((jR k r4.1 [[0],[0,1],[1]]).bind λn=>
 if n=true then((eC k r9.1 [0,1,3]).bind λl=>
 if l=true then((eC k e.1 [1,2]).bind λj=>
 some j) else(some false)) else(some false)) else(some false)) else(some false)) else(some false)) else(some false)) else(some false)) else(some false)) else(some false)) else(some false)) else(some false)) else(some false)):Option (Bool)).bind λh=>
 some h
theorem Aj(k:Nat)(r:Bool)(h:rP k=some r):
 bP (dN Tryz.prog) 16 [] [] (λ_:Unit=>(bD [.eq (.bool r)],[])):=by
 unfold rP at h
 replace h:=be h
 refine bP.of 110 Tryz.func16 rfl Tryz.ntmps16 rfl λS w0=>?_
 refine sr ?_
 refine cq ?_
 refine nt ?_
 refine sr ?_
 obtain⟨r1,Wc,h⟩:=aa h
 have Wp:=hP k ([]:(List bH)) r1 Wc
 refine ja (bV (N:=[(.const (.slice none 0 0),.eq (.slice none 0 0))]) (ay [.const (.slice none 0 0)] rfl rfl FG rfl Wp) λ_ _ _ hn=>⟨(aD (t:=(.slice bf)) (x:=([]:(List bH))) .nil rfl rfl hn.1),trivial⟩) ?_
 refine ja (bj (t:=Ti) [(.const (.int .i64 (0)),_)] [0] rfl rfl dL (.cons rfl .int .nil) rfl rfl) ?_
 obtain⟨r2,Wb,h⟩:=aa h
 have Wn:=pZ k r1 [0] r2 Wb
 refine jb (aX [.tmp 15,.tmp 16] rfl rfl SR rfl Wn) ?_
 refine mq ?_
 refine xr ?_
 refine xr ?_
 refine aq ?_
 refine aq ?_
 refine nt ?_
 refine sr ?_
 obtain⟨r3,Wa,h⟩:=aa h
 have Wm:=hP k ([]:(List bH)) r3 Wa
 refine ja (bV (N:=[(.const (.slice none 0 0),.eq (.slice none 0 0))]) (ay [.const (.slice none 0 0)] rfl rfl FG rfl Wm) λ_ _ _ hn=>⟨(aD (t:=(.slice bf)) (x:=([]:(List bH))) .nil rfl rfl hn.1),trivial⟩) ?_
 obtain⟨r4,V9,h⟩:=aa h
 have Wj:=wa k r3 r4 V9
 refine ja (aX [.tmp 21] rfl rfl Vm rfl Wj) ?_
 refine mq ?_
 refine xr ?_
 refine xr ?_
 refine aq ?_
 refine aq ?_
 refine nt ?_
 refine sr ?_
 obtain⟨r5,V8,h⟩:=aa h
 have Wi:=hP k ([]:(List bH)) r5 V8
 refine ja (bV (N:=[(.const (.slice none 0 0),.eq (.slice none 0 0))]) (ay [.const (.slice none 0 0)] rfl rfl FG rfl Wi) λ_ _ _ hn=>⟨(aD (t:=(.slice bf)) (x:=([]:(List bH))) .nil rfl rfl hn.1),trivial⟩) ?_
 obtain⟨r6,zM,h⟩:=aa h
 have Wh:=yc k r5 2 r6 zM
 refine jb (aX [.tmp 26,.const (.int .i64 (2))] rfl rfl Vk rfl Wh) ?_
 refine mq ?_
 refine xr ?_
 refine xr ?_
 refine aS rfl rfl rfl (ba rfl Bq Ta) trivial λb7=>?_
 refine aM rfl rfl (aI rfl vP rfl rfl rfl) ⟨rfl,rfl,trivial⟩ ?_
 refine aq ?_
 refine nt ?_
 refine sr ?_
 obtain⟨r8,zz,h⟩:=aa h
 have Wg:=hP k ([]:(List bH)) r8 zz
 refine ja (bV (N:=[(.const (.slice none 0 0),.eq (.slice none 0 0))]) (ay [.const (.slice none 0 0)] rfl rfl FG rfl Wg) λ_ _ _ hn=>⟨(aD (t:=(.slice bf)) (x:=([]:(List bH))) .nil rfl rfl hn.1),trivial⟩) ?_
 refine ja (bj (t:=Ti) [(.const (.int .i64 (0)),_)] [0] rfl rfl dL (.cons rfl .int .nil) rfl rfl) ?_
 obtain⟨r9,qt,h⟩:=aa h
 have We:=ye k r8 [0] 3 r9 qt
 refine jc (aX [.tmp 31,.tmp 32,.const (.int .i64 (3))] rfl rfl Va rfl We) ?_
 refine mq ?_
 refine xr ?_
 refine xr ?_
 refine aq ?_
 refine aq ?_
 refine nt ?_
 refine sr ?_
 obtain⟨u,O,h⟩:=aa h
 have Y:=hP k ([]:(List bH)) u O
 refine ja (bV (N:=[(.const (.slice none 0 0),.eq (.slice none 0 0))]) (ay [.const (.slice none 0 0)] rfl rfl FG rfl Y) λ_ _ _ hn=>⟨(aD (t:=(.slice bf)) (x:=([]:(List bH))) .nil rfl rfl hn.1),trivial⟩) ?_
 obtain⟨pq,M,h⟩:=aa h
 have X:=zX k u 2 pq M
 refine jb (aX [.tmp 37,.const (.int .i64 (2))] rfl rfl U8 rfl X) ?_
 refine mq ?_
 refine xr ?_
 refine xr ?_
 refine xr ?_
 refine aq ?_
 refine aq ?_
 refine aq ?_
 refine nt ?_
 refine sr ?_
 obtain⟨n,J,h⟩:=aa h
 have U:=hP k ([]:(List bH)) n J
 refine ja (bV (N:=[(.const (.slice none 0 0),.eq (.slice none 0 0))]) (ay [.const (.slice none 0 0)] rfl rfl FG rfl U) λ_ _ _ hn=>⟨(aD (t:=(.slice bf)) (x:=([]:(List bH))) .nil rfl rfl hn.1),trivial⟩) ?_
 obtain⟨l,I,h⟩:=aa h
 have Q:=vZ k n 2 l I
 refine jb (aX [.tmp 43,.const (.int .i64 (2))] rfl rfl U7 rfl Q) ?_
 refine mq ?_
 refine xr ?_
 refine xr ?_
 refine aq ?_
 refine aq ?_
 refine nt ?_
 refine aJ (Z:=Unit) (α:=Bool) (λe c=>[(0,.eq (.bool c))]) (λe c=>[]) h (λK h=>?_) (λe c h=>?_)
 .
  refine ab (mq ?_);refine jb (jg rfl) ?_;refine mq ?_;refine cQ (s:=49) rfl (λhb=>?_) (λhb=>?_)
  .replace h:=eQ (ta hb) h;refine gm ?_;refine gb (jg rfl) ?_;refine pt ?_;refine mq ?_;refine cQ (s:=53) rfl (λhb=>?_) (λhb=>?_)
   .replace h:=eQ (ta hb) h;refine gm ?_;refine gb (jg rfl) ?_;refine pt ?_;refine mq ?_;refine cQ (s:=57) rfl (λhb=>?_) (λhb=>?_)
    .replace h:=eQ (ta hb) h;refine gm ?_;refine gb (jg rfl) ?_;refine pt ?_;refine mq ?_;refine cQ (s:=61) rfl (λhb=>?_) (λhb=>?_)
     .replace h:=eQ (ta hb) h;refine gm ?_;refine gb (jg rfl) ?_;refine pt ?_;refine mq ?_;refine cQ (s:=65) rfl (λhb=>?_) (λhb=>?_)
      .replace h:=eQ (ta hb) h;refine gm ?_;refine gb (jg rfl) ?_;refine pt ?_;refine mq ?_;refine cQ (s:=69) rfl (λhb=>?_) (λhb=>?_)
       .replace h:=eQ (ta hb) h;refine pi rfl rfl rfl rfl rfl rfl (ax rfl vP (t6) rfl) ⟨rfl,trivial⟩ ?_;refine gb (eB [(0,.const (.int .i64 (1)),_),(1,.const (.int .i64 (3)),_)] rfl HO Bq AW (jV ⟨rfl,rfl,trivial⟩) rfl) ?_;refine d4 (fA (t:=bU) (x:=(1,3)) 71 rfl (.agg (.pair .int .int)) trivial rfl) ?_;refine gb (PK rfl UK rfl) ?_;refine pt ?_;refine mq ?_;refine cQ (s:=74) rfl (λhb=>?_) (λhb=>?_)
        .replace h:=eQ (ta hb) h;refine gm ?_;refine gb (jg rfl) ?_;refine pt ?_;refine mq ?_;refine cQ (s:=78) rfl (λhb=>?_) (λhb=>?_)
         .replace h:=eQ (ta hb) h;refine gm ?_;refine gb (jg rfl) ?_;refine pt ?_;refine mq ?_;refine cQ (s:=82) rfl (λhb=>?_) (λhb=>?_)
          .replace h:=eQ (ta hb) h;refine gm ?_;refine lS rfl rfl rfl rfl rfl rfl (bj (t:=Ti) [(.const (.int .i64 (1)),_),(.const (.int .i64 (-1)),_),(.const (.int .i64 (-1)),_),(.const (.int .i64 (-1)),_)] [1,(-1:Int),(-1:Int),(-1:Int)] rfl rfl dL (.cons rfl .int (.cons rfl .int (.cons rfl .int (.cons rfl .int .nil)))) rfl rfl) ⟨rfl,rfl,rfl,rfl,trivial⟩ ?_;refine lS rfl rfl rfl rfl rfl rfl (bj (t:=Ti) [(.const (.int .i64 (2)),_),(.const (.int .i64 (0)),_),(.const (.int .i64 (-1)),_),(.const (.int .i64 (-1)),_)] [2,0,(-1:Int),(-1:Int)] rfl rfl dL (.cons rfl .int (.cons rfl .int (.cons rfl .int (.cons rfl .int .nil)))) rfl rfl) ⟨rfl,rfl,rfl,rfl,trivial⟩ ?_;refine lS rfl rfl rfl rfl rfl rfl (bj (t:=Ti) [(.const (.int .i64 (3)),_),(.const (.int .i64 (1)),_),(.const (.int .i64 (-1)),_),(.const (.int .i64 (-1)),_)] [3,1,(-1:Int),(-1:Int)] rfl rfl dL (.cons rfl .int (.cons rfl .int (.cons rfl .int (.cons rfl .int .nil)))) rfl rfl) ⟨rfl,rfl,rfl,rfl,trivial⟩ ?_;refine lS rfl rfl rfl rfl rfl rfl (bj (t:=Ti) [(.const (.int .i64 (3)),_),(.const (.int .i64 (2)),_),(.const (.int .i64 (0)),_),(.const (.int .i64 (-1)),_)] [3,2,0,(-1:Int)] rfl rfl dL (.cons rfl .int (.cons rfl .int (.cons rfl .int (.cons rfl .int .nil)))) rfl rfl) ⟨rfl,rfl,rfl,rfl,trivial⟩ ?_;refine lS rfl rfl rfl rfl rfl rfl (bj (t:=Ti) [(.const (.int .i64 (-1)),_),(.const (.int .i64 (3)),_),(.const (.int .i64 (1)),_),(.const (.int .i64 (0)),_)] [(-1:Int),3,1,0] rfl rfl dL (.cons rfl .int (.cons rfl .int (.cons rfl .int (.cons rfl .int .nil)))) rfl rfl) ⟨rfl,rfl,rfl,rfl,trivial⟩ ?_;refine lS rfl rfl rfl rfl rfl rfl (bj (t:=Tl) [(.tmp 84,_),(.tmp 85,_),(.tmp 86,_),(.tmp 87,_),(.tmp 88,_)] [[1,(-1:Int),(-1:Int),(-1:Int)],[2,0,(-1:Int),(-1:Int)],[3,1,(-1:Int),(-1:Int)],[3,2,0,(-1:Int)],[(-1:Int),3,1,0]] rfl rfl l7 (.cons rfl .rep (.cons rfl .rep (.cons rfl .rep (.cons rfl .rep (.cons rfl .rep .nil))))) rfl rfl) ⟨rfl,rfl,rfl,rfl,rfl,trivial⟩ ?_;obtain⟨mw,F,h⟩:=aa h;refine gb (ay [.tmp 83,.tmp 89] rfl rfl SC rfl (nm k r2.1 [[1,(-1:Int),(-1:Int),(-1:Int)],[2,0,(-1:Int),(-1:Int)],[3,1,(-1:Int),(-1:Int)],[3,2,0,(-1:Int)],[(-1:Int),3,1,0]] mw F)) ?_;refine pt ?_;refine mq ?_;refine cQ (s:=92) rfl (λhb=>?_) (λhb=>?_)
           .replace h:=eQ (KT hb) h;refine gm ?_;refine ga (bj (t:=Ti) [(.const (.int .i64 (0)),_)] [0] rfl rfl dL (.cons rfl .int .nil) rfl rfl) ?_;refine gb (bj (t:=Ti) [(.const (.int .i64 (0)),_),(.const (.int .i64 (1)),_)] [0,1] rfl rfl dL (.cons rfl .int (.cons rfl .int .nil)) rfl rfl) ?_;refine ga (bj (t:=Ti) [(.const (.int .i64 (1)),_)] [1] rfl rfl dL (.cons rfl .int .nil) rfl rfl) ?_;refine gc (bj (t:=Tl) [(.tmp 94,_),(.tmp 95,_),(.tmp 96,_)] [[0],[0,1],[1]] rfl rfl l7 (.cons rfl .rep (.cons rfl .rep (.cons rfl .rep .nil))) rfl rfl) ?_;obtain⟨mc,E,h⟩:=aa h;refine gb (ay [.tmp 93,.tmp 97] rfl rfl SC rfl (nm k r4.1 [[0],[0,1],[1]] mc E)) ?_;refine pt ?_;refine mq ?_;refine cQ (s:=100) rfl (λhb=>?_) (λhb=>?_)
            .replace h:=eQ (KT hb) h;refine gm ?_;refine gc (bj (t:=Ti) [(.const (.int .i64 (0)),_),(.const (.int .i64 (1)),_),(.const (.int .i64 (3)),_)] [0,1,3] rfl rfl dL (.cons rfl .int (.cons rfl .int (.cons rfl .int .nil))) rfl rfl) ?_;obtain⟨gw,D,h⟩:=aa h;refine gb (ay [.tmp 101,.tmp 102] rfl rfl MX rfl (iK k r9.1 [0,1,3] gw D)) ?_;refine pt ?_;refine mq ?_;refine cQ (s:=105) rfl (λhb=>?_) (λhb=>?_)
             .replace h:=eQ (KT hb) h;refine gm ?_;refine gb (bj (t:=Ti) [(.const (.int .i64 (1)),_),(.const (.int .i64 (2)),_)] [1,2] rfl rfl dL (.cons rfl .int (.cons rfl .int .nil)) rfl rfl) ?_;obtain⟨j,y,h⟩:=aa h;refine gb (ay [.tmp 106,.tmp 107] rfl rfl MX rfl (iK k l.1 [1,2] j y)) ?_;refine pt ?_;refine aq (nl ?_);exact jz ((),j) h []
             .replace h:=c6 (KU hb) h;iterate 3 refine gn ?_
              refine pf ?_;refine aq (nl ?_);exact jz ((),false) h []
            .replace h:=c6 (KU hb) h;iterate 3 refine gn ?_
             refine pf ?_;refine mq ?_;iterate 3 refine gn ?_
             refine pf ?_;refine aq (nl ?_);exact jz ((),false) h []
           .replace h:=c6 (KU hb) h;iterate 6 refine gn ?_
            refine pf ?_;refine mq ?_;iterate 3 refine gn ?_
            refine pf ?_;refine mq ?_;iterate 3 refine gn ?_
            refine pf ?_;refine aq (nl ?_);exact jz ((),false) h []
          .replace h:=c6 (tc hb) h;iterate 8 refine gn ?_
           refine pf ?_;refine mq ?_;iterate 6 refine gn ?_
           refine pf ?_;refine mq ?_;iterate 3 refine gn ?_
           refine pf ?_;refine mq ?_;iterate 3 refine gn ?_
           refine pf ?_;refine aq (nl ?_);exact jz ((),false) h []
         .replace h:=c6 (tc hb) h;iterate 2 refine gn ?_
          refine pf ?_;refine mq ?_;iterate 8 refine gn ?_
          refine pf ?_;refine mq ?_;iterate 6 refine gn ?_
          refine pf ?_;refine mq ?_;iterate 3 refine gn ?_
          refine pf ?_;refine mq ?_;iterate 3 refine gn ?_
          refine pf ?_;refine aq (nl ?_);exact jz ((),false) h []
        .replace h:=c6 (tc hb) h;iterate 2 refine gn ?_
         refine pf ?_;refine mq ?_;iterate 2 refine gn ?_
         refine pf ?_;refine mq ?_;iterate 8 refine gn ?_
         refine pf ?_;refine mq ?_;iterate 6 refine gn ?_
         refine pf ?_;refine mq ?_;iterate 3 refine gn ?_
         refine pf ?_;refine mq ?_;iterate 3 refine gn ?_
         refine pf ?_;refine aq (nl ?_);exact jz ((),false) h []
       .replace h:=c6 (tc hb) h;iterate 3 refine gn ?_
        refine pf ?_;refine mq ?_;iterate 2 refine gn ?_
        refine pf ?_;refine mq ?_;iterate 2 refine gn ?_
        refine pf ?_;refine mq ?_;iterate 8 refine gn ?_
        refine pf ?_;refine mq ?_;iterate 6 refine gn ?_
        refine pf ?_;refine mq ?_;iterate 3 refine gn ?_
        refine pf ?_;refine mq ?_;iterate 3 refine gn ?_
        refine pf ?_;refine aq (nl ?_);exact jz ((),false) h []
      .replace h:=c6 (tc hb) h;iterate 2 refine gn ?_
       refine pf ?_;refine mq ?_;iterate 3 refine gn ?_
       refine pf ?_;refine mq ?_;iterate 2 refine gn ?_
       refine pf ?_;refine mq ?_;iterate 2 refine gn ?_
       refine pf ?_;refine mq ?_;iterate 8 refine gn ?_
       refine pf ?_;refine mq ?_;iterate 6 refine gn ?_
       refine pf ?_;refine mq ?_;iterate 3 refine gn ?_
       refine pf ?_;refine mq ?_;iterate 3 refine gn ?_
       refine pf ?_;refine aq (nl ?_);exact jz ((),false) h []
     .replace h:=c6 (tc hb) h;iterate 2 refine gn ?_
      refine pf ?_;refine mq ?_;iterate 2 refine gn ?_
      refine pf ?_;refine mq ?_;iterate 3 refine gn ?_
      refine pf ?_;refine mq ?_;iterate 2 refine gn ?_
      refine pf ?_;refine mq ?_;iterate 2 refine gn ?_
      refine pf ?_;refine mq ?_;iterate 8 refine gn ?_
      refine pf ?_;refine mq ?_;iterate 6 refine gn ?_
      refine pf ?_;refine mq ?_;iterate 3 refine gn ?_
      refine pf ?_;refine mq ?_;iterate 3 refine gn ?_
      refine pf ?_;refine aq (nl ?_);exact jz ((),false) h []
    .replace h:=c6 (tc hb) h;iterate 2 refine gn ?_
     refine pf ?_;refine mq ?_;iterate 2 refine gn ?_
     refine pf ?_;refine mq ?_;iterate 2 refine gn ?_
     refine pf ?_;refine mq ?_;iterate 3 refine gn ?_
     refine pf ?_;refine mq ?_;iterate 2 refine gn ?_
     refine pf ?_;refine mq ?_;iterate 2 refine gn ?_
     refine pf ?_;refine mq ?_;iterate 8 refine gn ?_
     refine pf ?_;refine mq ?_;iterate 6 refine gn ?_
     refine pf ?_;refine mq ?_;iterate 3 refine gn ?_
     refine pf ?_;refine mq ?_;iterate 3 refine gn ?_
     refine pf ?_;refine aq (nl ?_);exact jz ((),false) h []
   .replace h:=c6 (tc hb) h;iterate 2 refine gn ?_
    refine pf ?_;refine mq ?_;iterate 2 refine gn ?_
    refine pf ?_;refine mq ?_;iterate 2 refine gn ?_
    refine pf ?_;refine mq ?_;iterate 2 refine gn ?_
    refine pf ?_;refine mq ?_;iterate 3 refine gn ?_
    refine pf ?_;refine mq ?_;iterate 2 refine gn ?_
    refine pf ?_;refine mq ?_;iterate 2 refine gn ?_
    refine pf ?_;refine mq ?_;iterate 8 refine gn ?_
    refine pf ?_;refine mq ?_;iterate 6 refine gn ?_
    refine pf ?_;refine mq ?_;iterate 3 refine gn ?_
    refine pf ?_;refine mq ?_;iterate 3 refine gn ?_
    refine pf ?_;refine aq (nl ?_);exact jz ((),false) h []
  .replace h:=c6 (tc hb) h;iterate 2 refine gn ?_
   refine pf ?_;refine mq ?_;iterate 2 refine gn ?_
   refine pf ?_;refine mq ?_;iterate 2 refine gn ?_
   refine pf ?_;refine mq ?_;iterate 2 refine gn ?_
   refine pf ?_;refine mq ?_;iterate 2 refine gn ?_
   refine pf ?_;refine mq ?_;iterate 3 refine gn ?_
   refine pf ?_;refine mq ?_;iterate 2 refine gn ?_
   refine pf ?_;refine mq ?_;iterate 2 refine gn ?_
   refine pf ?_;refine mq ?_;iterate 8 refine gn ?_
   refine pf ?_;refine mq ?_;iterate 6 refine gn ?_
   refine pf ?_;refine mq ?_;iterate 3 refine gn ?_
   refine pf ?_;refine mq ?_;iterate 3 refine gn ?_
   refine pf ?_;refine aq (nl ?_);exact jz ((),false) h []
 .
  refine aA ?_;cases h;exact ra
def dj(k:Nat)(e:(List Int)):Nat->(Int×Int)->Option Int
 |0,_=>none
 |n+1,c=>
  if c.2 < (e.length:Int) then((aR e c.2).bind λj=>
  (eZ k c.1 j).bind λl=>
  (ck (c.2+1)).bind λh=>
  dj k e n (l,h)) else(some c.1)
def f8(k:Nat)(a0:ae)(q5:ae):Nat->((List Int)×Int)->Option ((List Int)×Int)
 |0,_=>none
 |n+1,c=>
  (gx k (lx (λ(j:(List Int)) (h:(List Int))=>
   if¬((h.length:Int)=c.2) then(some (j,true)) else(((dj k h k (0,0)):Option (Int)).bind λr=>
   (cu k q5 r).bind λs=>
   if 0 < (s.length:Int) then(some (h,false)) else(some (j,true))))) (a0.2.2.2.2.2.length:Int) (c.1,false)).bind λe=>
  if e.2=true then(some (e.1,0)) else((ck (c.2+1)).bind λl=>
  f8 k a0 q5 n (e.1,l))
def nh(k:Nat)(a0:ae):Option ((List Int)×Int):=
 (jj k a0 ([]:(List Int)) ([]:(List Int)) ([]:(List Int)) ([]:(List Int))).bind λr4=>
 f9 r4.1 (if¬(r4.2.2=0) then(some ([],r4.2.2)) else(none)) (λq5=>if¬(r4.2.2=0) then(some ([],r4.2.2)) else(f8 k a0 q5 k ([],0)))
theorem yb(k:Nat)(a0:ae)(r:(List Int)×Int)(h:nh k a0=some r):
 bP (dN Tryz.prog) 28 [.rep au a0] [] (λ_:Unit=>(bD [.rep Tl r.1,I r.2],[])):=by
 unfold nh at h
 replace h:=be h
 refine Ba 49 Tryz.func28 rfl Tryz.ntmps28 rfl λS w0=>?_
 refine sr ?_
 refine bx λb1=>?_
 refine aS rfl rfl rfl (ba rfl Uf Vr) trivial λb2=>?_
 refine aS rfl rfl rfl (ba rfl Ue Vq) trivial λb3=>?_
 refine nt ?_
 refine sr ?_
 refine fr 2 ?_
 refine lo iM ?_
 obtain⟨r4,Wg,h⟩:=aa h
 have U:=jZ k a0 ([]:(List Int)) ([]:(List Int)) ([]:(List Int)) ([]:(List Int)) r4 Wg
 rcases hr:r4.1 with _ |q5
 .
  rw [hr] at h U;replace h:=ve h;refine aN (Δ:=[]) (F:=_) (λ_ _ _=>ah rfl _) rfl rfl (bV (N:=[(.tmp 13,.rep au a0),(.const (.slice none 0 0),.eq (.slice none 0 0)),(.const (.slice none 0 0),.eq (.slice none 0 0)),(.const (.slice none 0 0),.eq (.slice none 0 0)),(.const (.slice none 0 0),.eq (.slice none 0 0))]) (aX [.tmp 13,.const (.slice none 0 0),.const (.slice none 0 0),.const (.slice none 0 0),.const (.slice none 0 0)] rfl rfl wi rfl U) λ_ _ _ hn=>⟨hn.1,(aD (t:=Tl) (x:=([]:(List Int))) .nil rfl rfl hn.2.1),(aD (t:=Tl) (x:=([]:(List Int))) .nil rfl rfl hn.2.2.1),(aD (t:=Tl) (x:=([]:(List Int))) .nil rfl rfl hn.2.2.2.1),(aD (t:=Tl) (x:=([]:(List Int))) .nil rfl rfl hn.2.2.2.2.1),trivial⟩) ⟨rfl,rfl,rfl,rfl,rfl,trivial⟩ λ_=>?_;refine mq ?_;refine xr ?_;refine xr ?_;refine xr ?_;refine aS rfl rfl rfl (ba rfl OL Qn) trivial λb6=>?_;refine aM rfl rfl (aI rfl BE rfl rfl rfl) ⟨rfl,rfl,trivial⟩ ?_;refine aq ?_;refine aq (nt (aj (sr ?_)));refine mq ?_;refine jb (fB rfl) ?_;refine nt (cn h (λh=>?_) (λh=>?_))
  .refine sr (mq ?_);refine fr 3 ?_;refine aM rfl rfl (aI rfl eo rfl rfl rfl) ⟨rfl,rfl,trivial⟩ ?_;refine fr 3 ?_;refine aM rfl rfl (aI rfl E2 rfl rfl rfl) ⟨rfl,rfl,trivial⟩ ?_;refine nt (rx (aC 1 rfl ?_));refine bM (ge (a:=.eq (.slice none 0 0)) (a':=.rep Tl []) (iq .nil)) ?_;refine A6 ?_;cases h;exact aQ () [_,_] 0 ⟨⟨_,_,_,_,_,rfl,(.head _),eo,(λ_=>rfl),rfl⟩,⟨_,_,_,_,_,rfl,(.tail _ (.head _)),E2,(λ_=>rfl),rfl⟩,trivial⟩ rfl
  .cases h
 .
  rw [hr] at h U;replace h:=vd h;refine aN (Δ:=[]) (F:=_) (λ_ _ _=>ah rfl _) rfl rfl (bV (N:=[(.tmp 13,.rep au a0),(.const (.slice none 0 0),.eq (.slice none 0 0)),(.const (.slice none 0 0),.eq (.slice none 0 0)),(.const (.slice none 0 0),.eq (.slice none 0 0)),(.const (.slice none 0 0),.eq (.slice none 0 0))]) (aX [.tmp 13,.const (.slice none 0 0),.const (.slice none 0 0),.const (.slice none 0 0),.const (.slice none 0 0)] rfl rfl wi rfl U) λ_ _ _ hn=>⟨hn.1,(aD (t:=Tl) (x:=([]:(List Int))) .nil rfl rfl hn.2.1),(aD (t:=Tl) (x:=([]:(List Int))) .nil rfl rfl hn.2.2.1),(aD (t:=Tl) (x:=([]:(List Int))) .nil rfl rfl hn.2.2.2.1),(aD (t:=Tl) (x:=([]:(List Int))) .nil rfl rfl hn.2.2.2.2.1),trivial⟩) ⟨rfl,rfl,rfl,rfl,rfl,trivial⟩ λz7=>?_;refine mq ?_;refine xr ?_;refine xr ?_;refine xr ?_;refine aS rfl rfl rfl (ba rfl OL Qn) trivial λb8=>?_;refine aM rfl rfl (aI rfl BE rfl rfl rfl) ⟨rfl,rfl,trivial⟩ ?_;refine aq ?_;refine aq (nt (aj (sr ?_)));refine mq ?_;refine jb (fB rfl) ?_;refine nt (cn h (λh=>?_) (λh=>?_))
  .refine sr (mq ?_);refine fr 5 ?_;refine aM rfl rfl (aI rfl eo rfl rfl rfl) ⟨rfl,rfl,trivial⟩ ?_;refine fr 5 ?_;refine aM rfl rfl (aI rfl E2 rfl rfl rfl) ⟨rfl,rfl,trivial⟩ ?_;refine nt (rx (aC 1 rfl ?_));refine bM (ge (a:=.eq (.slice none 0 0)) (a':=.rep Tl []) (iq .nil)) ?_;refine A6 ?_;cases h;exact aQ () [_,_] 0 ⟨⟨_,_,_,_,_,rfl,(.head _),eo,(λ_=>rfl),rfl⟩,⟨_,_,_,_,_,rfl,(.tail _ (.head _)),E2,(λ_=>rfl),rfl⟩,trivial⟩ rfl
  .refine sk (sr (aS rfl rfl rfl (ba rfl VB VN) trivial λb9=>?_));refine aM rfl rfl (aI rfl cF rfl rfl rfl) ⟨rfl,rfl,trivial⟩ ?_;refine nt (ai (cj 6 rfl ?_));refine ik (ge (a:=.eq (.slice none 0 0)) (a':=.rep Tl []) (iq .nil)) ?_;refine J3 (Z:=Nat) (α:=(List Int)×Int) (λe c=>[(1,Pt b1),(2,Pt b2),(3,Pt b3),(4,Pt b8),(7,Pt e)]) (λe c=>[.obj b1 26 (.rep au a0),.obj b2 22 (.rep Tl c.1),.obj b3 31 (I 0),.obj b8 72 (.eq (.pointer (some ⟨z7.1,0,none⟩))),.obj z7.1 125 (aO q5 z7.2),.obj e 3 (I c.2),.inv z7.2 (bN k q5)]) (f8 k a0 q5) k b9 ([],0) (λ_=>rfl) h (SE.fin [5,0,6,2,3,1,4] ⟨rfl,rfl,rfl,rfl,rfl,trivial⟩ rfl) (λn ml1 e c h=>?_);unfold f8 at h;refine aj (ai (Gn rfl (P3 P2) ?_));refine aj (J4 ?_);refine tn (sr (fl nP ?_));refine lo xE ?_;refine ol NG ?_;refine aS rfl rfl rfl (ay [.tmp 25] rfl rfl UZ rfl (uL (a0.2.2.2.2.2.length:Int))) ⟨rfl,trivial⟩ λu=>?_;refine nt (ai (cj 7 rfl ?_));refine cj 7 rfl ?_;refine cj 7 rfl ?_;refine cj 7 rfl ?_;refine cj 7 rfl ?_;refine cj 7 rfl ?_;refine cj 7 rfl ?_;refine cj 7 rfl ?_;obtain⟨j,Wb,h⟩:=aa h;refine nV (Δ:=[.obj u 3 (I (a0.2.2.2.2.2.length:Int)),.obj b1 26 (.rep au a0),.obj b2 22 (.rep Tl c.1),.obj b3 31 (I 0),.obj b8 72 (.eq (.pointer (some ⟨z7.1,0,none⟩))),.obj z7.1 125 (aO q5 z7.2),.obj e 3 (I c.2),.inv z7.2 (bN k q5)]) (F:=zB ml1) (X:=Unit) (J:=λ_=>MF j.2) (E:=λQ=>[.obj u 3 (I (a0.2.2.2.2.2.length:Int)),.obj b1 26 (.rep au a0),.obj b2 22 (.rep Tl j.1),.obj b3 31 (I 0),.obj b8 72 (.eq (.pointer (some ⟨z7.1,0,none⟩))),.obj z7.1 125 (aO q5 z7.2),.obj e 3 (I c.2),.inv z7.2 (bN k q5)]) (r0:=λ_=>.tup .any) rfl rfl UM (λrec hp ha hb hs hpe hN hv l=>?_) (λdl Q=>qj (λhj=>?_) (λhj=>?_))
   .rcases rec with⟨st0,pe0,fn0,tm0,ps0,as0,bd0,df0⟩;dsimp only at hp ha hb hs hpe hN hv;subst hp hs hpe;have vN:yK tm0 [(2,Pt b2),(3,Pt b3),(4,Pt b8),(7,Pt e)]:=⟨congrArg A.eq (hv 2 _ rfl).symm,congrArg A.eq (hv 3 _ rfl).symm,congrArg A.eq (hv 4 _ rfl).symm,congrArg A.eq (hv 7 _ rfl).symm,trivial⟩;refine bP.pick (M:=(dN Tryz.prog)) [1,0,2,3,4,5,6,7,8] [1,0,2,3,4,5,6,7,8] (sM (λ(Q:Unit) (q:(List Int)×Bool)=>[.raw l (.loop (jd ⟨.ready,none,fn0,tm0, #[27],as0,bd0,df0⟩ (MF q.2))),.obj b1 26 (.rep au a0),.obj b2 22 (.rep Tl q.1),.obj b3 31 (I 0),.obj b8 72 (.eq (.pointer (some ⟨z7.1,0,none⟩))),.obj z7.1 125 (aO q5 z7.2),.obj e 3 (I c.2),.inv z7.2 (bN k q5)]) l (lx (λ(O:(List Int)) (s:(List Int))=>
    if¬((s.length:Int)=c.2) then(some (O,true)) else(((dj k s k (0,0)):Option (Int)).bind λD=>
    (cu k q5 D).bind λgw=>
    if 0 < (gw.length:Int) then(some (s,false)) else(some (O,true))))) k (a0.2.2.2.2.2.length:Int) u (λQ q p r' h=>?_) () (c.1,false) j Wb) rfl (λ_=>rfl) (λ_=>rfl)
    obtain⟨rq,hq,h2,rfl⟩:=ql h;obtain⟨O,b5⟩:=q;obtain rfl:b5=false:=hq;replace h:=be h2;obtain⟨s,hpv⟩:∃x,x=p:=⟨_,rfl⟩;subst hpv;refine YT.pick (R':=(λQ:Unit=>(.eq (.bool rq.2),[.raw l (.loop (jd ⟨.ready,none,fn0,tm0, #[27],as0,bd0,df0⟩ (MF (!rq.2)))),.obj b1 26 (.rep au a0),.obj b2 22 (.rep Tl rq.1),.obj b3 31 (I 0),.obj b8 72 (.eq (.pointer (some ⟨z7.1,0,none⟩))),.obj z7.1 125 (aO q5 z7.2),.obj e 3 (I c.2),.inv z7.2 (bN k q5)]))) [0,1,2,3,4,5,6,7] [0,1,2,3,4,5,6,7] (C9 ha hb (N:=49) (Γ:=[(2,Pt b2),(3,Pt b3),(4,Pt b8),(7,Pt e)]) rfl hN (by decide) vN (λS w=>?_)) rfl (λ_=>rfl) (λ_=>rfl);refine ab (aq (nl ?_));refine vA rfl rfl ?_;refine ai (aj (sr (mq ?_)));refine ol g7 ?_;refine fr 6 ?_;refine lo cF ?_;refine jb (fB rfl) ?_;refine nt (cn h (λh=>?_) (λh=>?_))
    .refine fD (bO (c7 (aC 7 rfl ?_)));refine aC 1 rfl ?_;refine aC 7 rfl ?_;refine aC 7 rfl ?_;refine aC 7 rfl ?_;refine aC 7 rfl ?_;refine aC 7 rfl ?_;refine aC 7 rfl ?_;cases h;exact lj () 7 rfl
    .refine sk (sr (cq (nt ?_)));refine aJ (Z:=Unit) (α:=Int) (λpq D=>[(2,Pt b2),(3,Pt b3),(4,Pt b8),(8,.rep Tl s),(9,.eq (.int .u8 D))]) (λpq D=>[.obj b2 22 (.rep Tl O),.obj b3 31 (I 0),.obj b8 72 (.eq (.pointer (some ⟨z7.1,0,none⟩))),.obj z7.1 125 (aO q5 z7.2),.inv z7.2 (bN k q5),.obj b1 26 (.rep au a0),.obj e 3 (I c.2),.raw l (.loop (⟨.busy,none,fn0,tm0, #[27],as0,bd0,df0⟩:Loop))]) h (λK h=>?_) (λpq D h=>?_)
     .refine sr (mq ?_);refine ol g7 ?_;refine fq rfl ?_;refine nt (ai (aG (Z:=Unit) (α:=Int×Int) (λmw y=>[(2,Pt b2),(3,Pt b3),(4,Pt b8),(8,.rep Tl s),(9,.eq (.int .u8 y.1)),(32,.rep Tl s),(33,I (s.length:Int)),(34,I y.2)]) (λmw y=>[.obj b2 22 (.rep Tl O),.obj b3 31 (I 0),.obj b8 72 (.eq (.pointer (some ⟨z7.1,0,none⟩))),.obj z7.1 125 (aO q5 z7.2),.inv z7.2 (bN k q5),.obj b1 26 (.rep au a0),.obj e 3 (I c.2),.raw l (.loop (⟨.busy,none,fn0,tm0, #[27],as0,bd0,df0⟩:Loop))]) (dj k s) k () (0,0) (λ_=>rfl) h (SE.fin [3,4,5,6,7,2,0,1] ⟨rfl,rfl,rfl,rfl,rfl,rfl,rfl,rfl,trivial⟩ rfl) (λn mw y h=>?_)));unfold dj at h;refine sr (jb (bA rfl) ?_);refine nt (aj (ci h (λh=>?_) (λh=>?_)))
      .refine sk (aj (ai (sr ?_)));obtain⟨We,V8,h⟩:=aa h;refine jb (aW (t:=Ti) rfl g7 cF V8) ?_;refine ja (av (t:=Ti) rfl cF rfl) ?_;refine aq (nt (ab ?_));iterate 2 refine mq ?_
       obtain⟨qt,Wa,h⟩:=aa h;refine jb (ay [.tmp 38,.tmp 39] rfl rfl MS rfl (iF k y.1 We qt Wa)) ?_;refine aq (aH (aL (tn (ab ?_))));obtain⟨Wc,zM,h⟩:=aa h;refine jb (bp rfl zM) ?_;refine mq (nl ?_);exact jz ((),(qt,Wc)) h [0,1,2,3,4,5,6,7]
      .refine xa ?_;exact jz ((),y.1) h [0,1,2,3,4,5,6,7]
     .refine sr (fr 2 ?_);refine lo BE ?_;refine mq ?_;obtain⟨gw,V9,h⟩:=aa h;refine fr 4 ?_;refine fr 4 ?_;refine aN (Δ:=[_,_]) (F:=_) (λ_ _ _=>ah rfl _) rfl rfl (aX [.tmp 42,.tmp 43] rfl rfl P8 rfl (il k q5 z7.1 z7.2 D gw V9)) ⟨rfl,rfl,trivial⟩ λ_=>?_;refine ol A1 ?_;refine jb (ml rfl) ?_;refine nt (ci h (λh=>?_) (λh=>?_))
      .refine sr (mq ?_);refine fr 3 ?_;refine aM rfl rfl (aI rfl eo rfl rfl rfl) ⟨rfl,rfl,trivial⟩ ?_;refine fr 4 ?_;refine aM rfl rfl (aI rfl E2 rfl rfl rfl) ⟨rfl,rfl,trivial⟩ ?_;refine nt (aA (bh (aC 3 rfl ?_)));refine aC 6 rfl ?_;refine aC 4 rfl ?_;refine aC 5 rfl ?_;refine aC 4 rfl ?_;refine aC 5 rfl ?_;refine aC 6 rfl ?_;refine aC 7 rfl ?_;cases h;exact Gk () 7 rfl
      .refine bg (aL (aC 1 rfl ?_));refine aC 6 rfl ?_;refine aC 2 rfl ?_;refine aC 3 rfl ?_;refine aC 5 rfl ?_;refine aC 5 rfl ?_;refine aC 6 rfl ?_;refine aC 7 rfl ?_;cases h;exact lj () 7 rfl
   .replace h:=c6 (KU hj) h;refine aL (J1 ?_);refine aL (tn (aj (sr (fr 7 ?_))));refine lo cF ?_;refine nt (ab (aS rfl rfl rfl (ba rfl VB VN) trivial λmc=>?_));refine aM rfl rfl (aI rfl cF rfl rfl rfl) ⟨rfl,rfl,trivial⟩ ?_;refine nt (ab (lo cF ?_));obtain⟨Y,zz,h⟩:=aa h;refine jb (bp rfl zz) ?_;refine aM rfl rfl (aI rfl cF rfl rfl rfl) ⟨rfl,rfl,trivial⟩ ?_;refine nl ?_;show JN _ _ _ ([.obj mc 3 (I Y),.obj e 3 (I c.2),.raw dl (.deferred (some [])),.obj u 3 (I (a0.2.2.2.2.2.length:Int)),.obj b1 26 (.rep au a0),.obj b2 22 (.rep Tl j.1),.obj b3 31 (I 0),.obj b8 72 (.eq (.pointer (some ⟨z7.1,0,none⟩))),.obj z7.1 125 (aO q5 z7.2),.inv z7.2 (bN k q5)]++zB ml1);exact QC dl ml1 (mc,(j.1,Y)) h (gf [.obj mc 3 (I Y),.obj e 3 (I c.2),.raw dl (.deferred (some [])),.obj u 3 (I (a0.2.2.2.2.2.length:Int)),.obj b1 26 (.rep au a0),.obj b2 22 (.rep Tl j.1),.obj b3 31 (I 0),.obj b8 72 (.eq (.pointer (some ⟨z7.1,0,none⟩))),.obj z7.1 125 (aO q5 z7.2),.inv z7.2 (bN k q5)] (zB ml1) [4,5,6,7,8,0,9,2] ⟨rfl,rfl,rfl,rfl,rfl,trivial⟩ rfl) (by exact rfl)
   .replace h:=eQ (KT hj) h;refine aA (bh (J0 ?_));refine br (bh ?_);show JN _ _ _ ([.raw dl (.deferred (some [])),.obj u 3 (I (a0.2.2.2.2.2.length:Int)),.obj b1 26 (.rep au a0),.obj b2 22 (.rep Tl j.1),.obj b3 31 (I 0),.obj b8 72 (.eq (.pointer (some ⟨z7.1,0,none⟩))),.obj z7.1 125 (aO q5 z7.2),.obj e 3 (I c.2),.inv z7.2 (bN k q5)]++zB ml1);refine bM (gf (Γ':=[(2,_),(3,_)]) [.raw dl (.deferred (some [])),.obj u 3 (I (a0.2.2.2.2.2.length:Int)),.obj b1 26 (.rep au a0),.obj b2 22 (.rep Tl j.1),.obj b3 31 (I 0),.obj b8 72 (.eq (.pointer (some ⟨z7.1,0,none⟩))),.obj z7.1 125 (aO q5 z7.2),.obj e 3 (I c.2),.inv z7.2 (bN k q5)] (zB ml1) [1,2,3,4,5,6,7,8,0] ⟨rfl,rfl,trivial⟩ rfl) ?_;refine NQ (Δ:=[.obj u 3 (I (a0.2.2.2.2.2.length:Int)),.obj b1 26 (.rep au a0),.obj b2 22 (.rep Tl j.1),.obj b3 31 (I 0),.obj b8 72 (.eq (.pointer (some ⟨z7.1,0,none⟩))),.obj z7.1 125 (aO q5 z7.2),.obj e 3 (I c.2),.inv z7.2 (bN k q5)]) (dl::ml1) ?_;cases h;exact aQ () [_,_] 0 ⟨⟨_,_,_,_,_,rfl,(.tail _ (.tail _ (.head _))),eo,(λ_=>rfl),rfl⟩,⟨_,_,_,_,_,rfl,(.tail _ (.tail _ (.tail _ (.head _)))),E2,(λ_=>rfl),rfl⟩,trivial⟩ rfl
def dI(k:Nat)(a0:ae)(a2:(List Int))(r2:(List (List Int))×Int):Nat->Int->Option (Except (Bool×Bool) Unit)
 |0,_=>none
 |n+1,y8=>
  if y8 < (a0.2.2.2.2.2.length:Int) then((aR a0.2.2.2.2.2 y8).bind λc=>
  (((uV k a2 y8).bind λr=>
  if r < 0 then((aR r2.1 c.2.1).bind λj=>
  (aR j c.1).bind λh=>
  some (!decide (c.2.2=(decide (a0.2.2.1≤h))))) else(some false)):Option (Bool)).bind λl=>
  if l=true then(some (.error (false,true))) else((ck (y8+1)).bind λe=>
  dI k a0 a2 r2 n e)) else(some (.ok ()))
def jp(k:Nat)(a0:ae)(a1:(List Int))(a2:(List Int)):Option (Bool×Bool):=
 (iP k a0 a1).bind λr2=>
 ((if¬(r2.2=0) then(some true) else((nj k a0 r2.1).bind λr5=>
 some (!r5))):Option (Bool)).bind λx3=>
 if x3=true then(some (false,false)) else(bE (α:=Unit) (dI k a0 a2 r2 k 0) (some) λ_=>
 some (true,true))
theorem tV(k:Nat)(a0:ae)(a1:(List Int))(a2:(List Int))(r:Bool×Bool)(h:jp k a0 a1 a2=some r):
 bP (dN Tryz.prog) 31 [.rep au a0,.rep Tl a1,.rep Tl a2] [] (λ_:Unit=>(bD [.eq (.bool r.1),.eq (.bool r.2)],[])):=by
 unfold jp at h
 replace h:=be h
 refine bP.of 59 Tryz.func31 rfl Tryz.ntmps31 rfl λS w0=>?_
 refine sr ?_
 refine bx λb1=>?_
 refine cq ?_
 refine cq ?_
 refine nt ?_
 refine sr ?_
 refine lo iM ?_
 refine mq ?_
 obtain⟨r2,Q,h⟩:=aa h
 have U:=pZ k a0 a1 r2 Q
 refine jb (aX [.tmp 13,.tmp 14] rfl rfl SR rfl U) ?_
 refine mq ?_
 refine xr ?_
 refine xr ?_
 refine aq ?_
 refine aq ?_
 refine nt ?_
 refine aj ?_
 refine aJ (Z:=Unit) (α:=Bool) (λz4 x3=>[(2,.rep Tl a2),(3,Pt b1),(8,.rep (.slice Tl) r2.1),(25,.eq (.bool x3))]) (λz4 x3=>[.obj b1 26 (.rep au a0)]) h (λK h=>?_) (λz4 x3 h=>?_)
 .
  refine ab (mq ?_);refine jb (fB rfl) ?_;refine mq ?_;refine cQ (s:=20) rfl (λhb=>?_) (λhb=>?_)
  .replace h:=eQ (VG hb) h;iterate 4 refine gn ?_
   refine pt (nl ?_);exact jz ((),true) h [0]
  .replace h:=c6 (Ru hb) h;refine pi rfl rfl rfl rfl rfl rfl (ax rfl iM (t6) rfl) ⟨rfl,trivial⟩ ?_;refine gm ?_;obtain⟨r5,O,h⟩:=aa h;refine gb (ay [.tmp 21,.tmp 22] rfl rfl Vl rfl (yi k a0 r2.1 r5 O)) ?_;refine ga (ii rfl) ?_;refine pf (nl ?_);exact jz ((), !r5) h [0]
 .
  refine cv h (λh=>?_) (λh=>?_)
  .refine sr (cq ?_);refine cq (nt (rx ?_));cases h;exact rb
  .refine sk (dk (Z:=Unit) (α:=Unit) (λz7 x6=>[]) (λz7 x6=>[]) (λe=>e=r) h (λe h=>Option.some.inj h) (λK hR h=>?_) (λz7 x6 h=>?_))
   .refine sr (cq (nt (ai ?_)));refine aG (λz9 y8=>[(2,.rep Tl a2),(3,Pt b1),(8,.rep (.slice Tl) r2.1),(10,I y8)]) (λz9 y8=>[.obj b1 26 (.rep au a0)]) (dI k a0 a2 r2) k () 0 (λ_=>rfl) h (SE.fin [0] ⟨rfl,rfl,rfl,rfl,trivial⟩ rfl) (λn z9 y8 h=>?_);unfold dI at h;refine aj (sr (mq ?_));refine fl nP ?_;refine lo xE ?_;refine ol NG ?_;refine jb (bA rfl) ?_;refine nt (ci h (λh=>?_) (λh=>?_))
    .refine sk (aj (ai (sr (fl nP ?_))));refine lo xE ?_;refine mq ?_;obtain⟨J,y,h⟩:=aa h;refine jb (aW (t:=bf) rfl NG ry y) ?_;refine ja (av (t:=bf) rfl ry rfl) ?_;refine aS rfl rfl rfl (ba rfl Bo Jx) trivial λY=>?_;refine aM rfl rfl (aI rfl ry rfl rfl rfl) ⟨rfl,rfl,trivial⟩ ?_;refine nt (aJ (Z:=Unit) (α:=Bool) (λj c=>[(2,.rep Tl a2),(3,Pt b1),(8,.rep (.slice Tl) r2.1),(10,I y8),(58,.eq (.bool c))]) (λj c=>[.obj b1 26 (.rep au a0)]) h (λK h=>?_) (λj c h=>?_))
     .refine co ?_;refine dm ?_;refine dm ?_;obtain⟨M,D,h⟩:=aa h;refine db (ay [.tmp 38,.tmp 39] rfl rfl UY rfl (Ft k a2 y8 M D)) ?_;refine db (bA rfl) ?_;refine sc rfl rfl rfl (aV rfl) ⟨rfl,trivial⟩ (λhb=>?_) (λhb=>?_)
      .replace h:=eQ (ta hb) h;refine bZ rfl rfl rfl rfl rfl (aF rfl I5) ⟨rfl,rfl,trivial⟩ ?_;refine fu 0 rfl rfl rfl rfl rfl rfl (ax rfl VE ny rfl) ⟨rfl,rfl,trivial⟩ ?_;refine bZ rfl rfl rfl rfl rfl (aV rfl) ⟨rfl,rfl,trivial⟩ ?_;refine bZ rfl rfl rfl rfl rfl (aF rfl CN) ⟨rfl,rfl,trivial⟩ ?_;refine fu 0 rfl rfl rfl rfl rfl rfl (ax rfl cF ny rfl) ⟨rfl,rfl,trivial⟩ ?_;obtain⟨X,x,h⟩:=aa h;refine bZ rfl rfl rfl rfl rfl (aW (t:=Tl) rfl oq eo x) ⟨rfl,rfl,rfl,trivial⟩ ?_;refine bZ rfl rfl rfl rfl rfl (av (t:=Tl) rfl eo rfl) ⟨rfl,rfl,trivial⟩ ?_;refine bZ rfl rfl rfl rfl rfl (aF rfl CO) ⟨rfl,rfl,trivial⟩ ?_;refine fu 0 rfl rfl rfl rfl rfl rfl (ax rfl cF ny rfl) ⟨rfl,rfl,trivial⟩ ?_;obtain⟨F,u,h⟩:=aa h;refine bZ rfl rfl rfl rfl rfl (aW (t:=Ti) rfl g7 cF u) ⟨rfl,rfl,rfl,trivial⟩ ?_;refine bZ rfl rfl rfl rfl rfl (av (t:=Ti) rfl cF rfl) ⟨rfl,rfl,trivial⟩ ?_;refine bZ rfl rfl rfl rfl rfl (aF rfl yt) ⟨rfl,rfl,trivial⟩ ?_;refine fu 1 rfl rfl rfl rfl rfl rfl (ax rfl cF ny rfl) ⟨rfl,rfl,trivial⟩ ?_;refine bZ rfl rfl rfl rfl rfl (kG rfl) ⟨rfl,rfl,rfl,trivial⟩ ?_;refine df dz ?_;refine gb (H6 rfl U4) ?_;refine pt (nl ?_);exact jz ((), !decide (J.2.2=(decide (a0.2.2.1≤F)))) h [1]
      .replace h:=c6 (tc hb) h;iterate 14 refine dg ?_
       refine df dz ?_;refine gn ?_;refine pf (nl ?_);exact jz ((),false) h [1]
     .refine cv h (λh=>?_) (λh=>?_)
      .refine sr (cq ?_);refine cq (nt (aA (br (bh (bo ?_)))));obtain rfl:=hR _ h;exact rb
      .refine bg (aL (tn (ab (mq ?_))));obtain⟨E,l,h⟩:=aa h;refine jb (bp rfl l) ?_;refine aq (nl ?_);exact jz ((),E) h [0]
    .refine xa ?_;exact jz ((),()) h []
   .refine sr (cq ?_);refine cq (nt (aA ?_));cases h;exact rb
def cX(k:Nat)(r3:ae×bW)(r6:(List (List Int)))(r7:(List (List Int)))(e:Int):Nat->(Bool×Int)->Option (Except Bool Bool)
 |0,_=>none
 |n+1,c=>
  ((if c.2 < (r7.length:Int) then(some (!c.1)) else(some false)):Option (Bool)).bind λs=>
  if s=true then((aR r7 c.2).bind λr=>
  (aR r6 e).bind λl=>
  (jp k r3.1 r l).bind λh=>
  if¬(h.2=true) then(some (.error false)) else((ck (c.2+1)).bind λj=>
  cX k r3 r6 r7 e n (h.1,j))) else(some (.ok c.1))
def dx(k:Nat)(r3:ae×bW)(r5:(List Int)×Int)(r6:(List (List Int)))(r7:(List (List Int))):Nat->Int->Option (Except Bool Unit)
 |0,_=>none
 |n+1,c=>
  if c < (r6.length:Int) then(bE (α:=Unit) (bE (α:=Bool) (cX k r3 r6 r7 c k (false,0)) (λe=>some (.error e)) λr=>
  if r=true then(((if r5.2=0 then((aR r6 c).bind λj=>
  (eC k r5.1 j).bind λu=>
  if u=true then((rP k).bind λs=>
  some s) else(some false)) else(some false)):Option (Bool)).bind λl=>
  some (.error l)) else(some (.ok ()))) (λe=>some (.error e)) λ_=>
  (ck (c+1)).bind λh=>
  dx k r3 r5 r6 r7 n h) else(some (.ok ()))
def jQ(k:Nat)(a0:(List Int)):Option Bool:=
 (mz k a0).bind λr1=>
 (gy k (r1.1,r1.2.1,r1.2.2) 3 4).bind λr3=>
 (nh k r3.1).bind λr5=>
 (nk k (r3.1.2.2.2.2.2.length:Int)).bind λr6=>
 (kO k k r3.1.1 ([]:(List Int))).bind λr7=>
 bE (α:=Unit) (dx k r3 r5 r6 r7 k 0) (some) λ_=>
 some false
theorem sR(k:Nat)(a0:(List Int))(r:Bool)(h:jQ k a0=some r):
 bP (dN Tryz.prog) 6 [.rep Tl a0] [] (λ_:Unit=>(bD [.eq (.bool r)],[])):=by
 unfold jQ at h
 replace h:=be h
 refine bP.of 74 Tryz.func6 rfl Tryz.ntmps6 rfl λS w0=>?_
 refine sr ?_
 refine cq ?_
 refine nt ?_
 refine sr ?_
 refine mq ?_
 obtain⟨r1,Wm,h⟩:=aa h
 have Wt:=uS k a0 r1 Wm
 refine aS rfl rfl rfl (ay [.tmp 13] rfl rfl Vn rfl Wt) ⟨rfl,trivial⟩ λb2=>?_
 obtain⟨r3,Wj,h⟩:=aa h
 have Ws:=sU k (r1.1,r1.2.1,r1.2.2) b2 3 4 r3 Wj
 refine kc (ay [.tmp 14,.const (.int .i64 (3)),.const (.int .i64 (4))] rfl rfl V0 rfl Ws) ?_
 refine aS rfl rfl rfl (ba rfl yU F5) trivial λb4=>?_
 refine aM rfl rfl (aI rfl iM rfl rfl rfl) ⟨rfl,rfl,trivial⟩ ?_
 refine nt ?_
 refine sr ?_
 refine lo iM ?_
 obtain⟨r5,Wi,h⟩:=aa h
 have Wq:=yb k r3.1 r5 Wi
 refine ja (aX [.tmp 17] rfl rfl Vg rfl Wq) ?_
 refine mq ?_
 refine xr ?_
 refine xr ?_
 refine aq ?_
 refine aq ?_
 refine nt ?_
 refine aj ?_
 refine co ?_
 refine da (aF rfl nP) ?_
 refine ea 0 (ax rfl xE ny rfl) ?_
 refine da (rG rfl rfl NG) ?_
 obtain⟨r6,Wh,h⟩:=aa h
 have Wp:=yj k (r3.1.2.2.2.2.2.length:Int) r6 Wh
 refine da (ay [.tmp 23] rfl rfl Vf rfl Wp) ?_
 refine da (aF rfl im) ?_
 refine ea 0 (ax rfl cF ny rfl) ?_
 refine df dz ?_
 obtain⟨r7,Wg,h⟩:=aa h
 have Wn:=BL k k r3.1.1 ([]:(List Int)) r7 Wg
 refine jb (bV (N:=[(.tmp 26,I r3.1.1),(.const (.slice none 0 0),.eq (.slice none 0 0))]) (ay [.tmp 26,.const (.slice none 0 0)] rfl rfl SI rfl Wn) λ_ _ _ hn=>⟨hn.1,(aD (t:=Tl) (x:=([]:(List Int))) .nil rfl rfl hn.2.1),trivial⟩) ?_
 refine aq ?_
 refine aq ?_
 refine nt ?_
 refine dk (Z:=Unit) (α:=Unit) (λz9 x8=>[]) (λz9 x8=>[]) (λe=>e=r) h (λe h=>Option.some.inj h) (λK hR h=>?_) (λz9 x8 h=>?_)
 .
  refine sr (cq (nt (ai ?_)));refine aG (λO j=>[(3,Pt b4),(4,.rep Tl r5.1),(5,I r5.2),(6,.rep (.slice Tl) r6),(7,.rep (.slice Tl) r7),(8,I j)]) (λO j=>[.obj b4 26 (.rep au r3.1)]) (dx k r3 r5 r6 r7) k () 0 (λ_=>rfl) h (SE.fin [0] ⟨rfl,rfl,rfl,rfl,rfl,rfl,trivial⟩ rfl) (λn O j h=>?_);unfold dx at h;refine aj (sr ?_);iterate 2 refine mq ?_
  refine ol oq ?_;refine jb (bA rfl) ?_;refine nt (ci h (λh=>?_) (λh=>?_))
  .refine sk (dk (Z:=Unit) (α:=Unit) (λM Q=>[(3,Pt b4),(4,.rep Tl r5.1),(5,I r5.2),(6,.rep (.slice Tl) r6),(7,.rep (.slice Tl) r7),(8,I j)]) (λM Q=>[.obj b4 26 (.rep au r3.1)]) (λe=>e=r) h (λe h=>hR e h) (λK hR h=>?_) (λM Q h=>?_))
   .refine ai (sr (cq (nt ?_)));refine dk (Z:=Unit) (α:=Bool) (λJ y=>[(3,Pt b4),(4,.rep Tl r5.1),(5,I r5.2),(6,.rep (.slice Tl) r6),(7,.rep (.slice Tl) r7),(8,I j),(9,.eq (.bool y))]) (λJ y=>[.obj b4 26 (.rep au r3.1)]) (λe=>e=r) h (λe h=>hR e h) (λK hR h=>?_) (λJ y h=>?_)
    .refine sr (cq (nt (ai ?_)));refine aG (λF c=>[(3,Pt b4),(4,.rep Tl r5.1),(5,I r5.2),(6,.rep (.slice Tl) r6),(7,.rep (.slice Tl) r7),(8,I j),(9,.eq (.bool c.1)),(10,I c.2)]) (λF c=>[.obj b4 26 (.rep au r3.1)]) (cX k r3 r6 r7 j) k () (false,0) (λ_=>rfl) h (SE.fin [0] ⟨rfl,rfl,rfl,rfl,rfl,rfl,rfl,rfl,trivial⟩ rfl) (λn F c h=>?_);unfold cX at h;refine aj (aJ (Z:=Unit) (α:=Bool) (λE u=>[(3,Pt b4),(4,.rep Tl r5.1),(5,I r5.2),(6,.rep (.slice Tl) r6),(7,.rep (.slice Tl) r7),(8,I j),(9,.eq (.bool c.1)),(10,I c.2),(41,.eq (.bool u))]) (λE u=>[.obj b4 26 (.rep au r3.1)]) h (λK h=>?_) (λE u h=>?_))
     .refine ab ?_;iterate 2 refine mq ?_
      refine ol oq ?_;refine jb (bA rfl) ?_;refine mq ?_;refine cQ (s:=38) rfl (λhb=>?_) (λhb=>?_)
      .replace h:=eQ (ta hb) h;refine gm ?_;refine ga (ii rfl) ?_;refine pt (nl ?_);exact jz ((), !c.1) h [0]
      .replace h:=c6 (tc hb) h;iterate 2 refine gn ?_
       refine pf (nl ?_);exact jz ((),false) h [0]
     .refine cv h (λh=>?_) (λh=>?_)
      .refine sk (aj (ai (aj (co ?_))));refine ea 0 (ax rfl iM (t6) rfl) ?_;refine dm ?_;refine dm ?_;obtain⟨Wc,pq,h⟩:=aa h;refine db (aW (t:=Tl) rfl oq eo pq) ?_;refine da (av (t:=Tl) rfl eo rfl) ?_;refine dm ?_;refine dm ?_;obtain⟨Wb,mw,h⟩:=aa h;refine db (aW (t:=Tl) rfl oq eo mw) ?_;refine da (av (t:=Tl) rfl eo rfl) ?_;obtain⟨X,zM,h⟩:=aa h;refine dc (aX [.tmp 45,.tmp 49,.tmp 53] rfl rfl Ve rfl (tV k r3.1 Wc Wb X zM)) ?_;refine dm ?_;refine da (jB rfl rfl) ?_;refine da (jB rfl rfl) ?_;refine da (oP rfl) ?_;refine df dz ?_;refine aq (nt (aj (sr ?_)));refine mq ?_;refine ja (ii rfl) ?_;refine nt (cw h (λh=>?_) (λh=>?_))
       .refine sr (cq (nt (rx (br (bh (bo (br (bh (bo ?_)))))))));obtain rfl:=hR _ h;exact ra
       .refine sk (ab (mq ?_));refine aq (aH (aL (tn (ab ?_))));refine mq ?_;obtain⟨Wa,mc,h⟩:=aa h;refine jb (bp rfl mc) ?_;refine aq (nl ?_);exact jz ((),(X.1,Wa)) h [0]
      .refine xa ?_;exact jz ((),c.1) h [0]
    .refine sr (mq (nt ?_));refine cv h (λh=>?_) (λh=>?_)
     .refine aJ (Z:=Unit) (α:=Bool) (λD l=>[(2,.eq (.bool l))]) (λD l=>[]) h (λK h=>?_) (λD l h=>?_)
      .refine ab (mq ?_);refine jb (jg rfl) ?_;refine mq ?_;refine cQ (s:=63) rfl (λhb=>?_) (λhb=>?_)
       .replace h:=eQ (ta hb) h;refine gm ?_;refine gm ?_;refine gm ?_;obtain⟨V9,gw,h⟩:=aa h;refine gb (aW (t:=Tl) rfl oq eo gw) ?_;refine ga (av (t:=Tl) rfl eo rfl) ?_;obtain⟨We,zz,h⟩:=aa h;refine gb (ay [.tmp 64,.tmp 68] rfl rfl MX rfl (iK k r5.1 V9 We zz)) ?_;refine pt ?_;refine mq ?_;refine cQ (s:=71) rfl (λhb=>?_) (λhb=>?_)
        .replace h:=eQ (KT hb) h;obtain⟨U,qt,h⟩:=aa h;refine lS rfl rfl rfl rfl rfl rfl (aX [] rfl rfl Vj rfl (Aj k U qt)) trivial ?_;refine pt ?_;refine aq (nl ?_);exact jz ((),U) h []
        .replace h:=c6 (KU hb) h;refine gn ?_;refine pf ?_;refine aq (nl ?_);exact jz ((),false) h []
       .replace h:=c6 (tc hb) h;iterate 6 refine gn ?_
        refine pf ?_;refine mq ?_;refine gn ?_;refine pf ?_;refine aq (nl ?_);exact jz ((),false) h []
      .refine aA (br (bh (bo ?_)));obtain rfl:=hR _ h;exact ra
     .refine bg (bn ?_);exact jz ((),()) h [0]
   .refine ab (mq ?_);obtain⟨V8,Y,h⟩:=aa h;refine jb (bp rfl Y) ?_;refine aq (nl ?_);exact jz ((),V8) h [0]
  .refine xa ?_;exact jz ((),()) h []
 .
  refine sr (cq (nt (aA ?_)));cases h;exact ra
