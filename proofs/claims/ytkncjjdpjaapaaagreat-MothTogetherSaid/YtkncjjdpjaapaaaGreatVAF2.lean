import Derived.Test.YtkncjjdpjaapaaaGreatVAF1
import Derived.Test.YtkncjjdpjaapaaaGreatVAB10
set_option linter.unusedSimpArgs false
set_option linter.unusedVariables false
set_option maxRecDepth 4000
set_option maxHeartbeats 1000000
namespace Go.Proofs.YtkncjjdpjaapaaaGreat
open K Go Go.Proofs
def eT(k:Nat)(r4:(List Int)×bR):Nat→((List Int)×Int×Int×Int×(List (List Int)))→Option ((List Int)×Int×Int×(List (List Int)))
 |0,_=>none
 |n+1,y7=>
  if y7.2.2.2.1 < (r4.1.length:Int) then((((eK k (y7.1,y7.2.1,y7.2.2.1) 5).bind fun c=>
  if c.1=true then(some (c.2.1,c.2.2.1,c.2.2.2,y7.2.2.2.2)) else((ck ((y7.2.2.2.2.length:Int) - 1)).bind fun r=>
  (cR k (c.2.1,c.2.2.1,c.2.2.2) r).bind fun e=>
  (aX y7.2.2.2.2 e.1).bind fun j=>
  (aX r4.1 y7.2.2.2.1).bind fun h=>
  (cJ (cu (List.length j+List.length [h]))).bind fun _=>
  some (e.2.1,e.2.2.1,e.2.2.2,List.set y7.2.2.2.2 (Int.toNat e.1) (j++[h])))):Option ((List Int)×Int×Int×(List (List Int)))).bind fun x9=>
  (ck (y7.2.2.2.1+1)).bind fun l=>
  eT k r4 n (x9.1,x9.2.1,x9.2.2.1,l,x9.2.2.2)) else(some (y7.1,y7.2.1,y7.2.2.1,y7.2.2.2.2))
def jJ(k:Nat)(a0:bR)(a1:Int):Option ((List (List Int))×bR):=
 (fg k (a0.1,a0.2.1,a0.2.2) 1 3).bind fun r1=>
 (cJ (0≤r1.1∧cu (Int.toNat r1.1))).bind fun _=>
 (gd k (r1.2.1,r1.2.2.1,r1.2.2.2) a1).bind fun r4=>
 ((eT k r4 k (r4.2.1,r4.2.2.1,r4.2.2.2,0,List.replicate (Int.toNat r1.1) ([]:(List Int)))):Option ((List Int)×Int×Int×(List (List Int)))).bind fun x5=>
 some (x5.2.2.2,(x5.1,x5.2.1,x5.2.2.1))
theorem tV(k:Nat)(a0:bR)(c:Nat)(a1:Int)(r:(List (List Int))×bR)(h:jJ k a0 a1=some r):
 dy Tryz.prog 27 [Pt c,I a1] [.obj c 56 (.agg (.pair (Ri a0.1) (.pair (I a0.2.1) (.eq (.int .u64 a0.2.2)))))] (fun _:Unit=>(bI [.rep (.slice (.slice (.int .i64))) r.1],[.obj c 56 (.agg (.pair (Ri r.2.1) (.pair (I r.2.2.1) (.eq (.int .u64 r.2.2.2)))))])):=by
 unfold jJ at h
 replace h:=bo h
 refine dy.of 42 Tryz.func27 rfl Tryz.ntmps27 rfl fun S w0=>?_
 refine sr ?_
 refine cq ?_
 refine nt ?_
 refine sr ?_
 refine mq ?_
 obtain⟨r1,SO,h⟩:=aa h
 have SR:=iR k (a0.1,a0.2.1,a0.2.2) c 1 3 r1 SO
 refine kc (ax [.tmp 9,.const (.int .i64 (1)),.const (.int .i64 (3))] rfl rfl JB rfl SR) ?_
 obtain⟨u2,U,h⟩:=aa h
 refine aZ rfl rfl rfl (L8 (t:=.val) (d:=.slice none 0 0) rfl oQ NY (ao U).1 (ao U).2) ⟨rfl,rfl,trivial⟩ fun v3=>?_
 refine dX (Hw (F:=[.obj c 56 (.agg (.pair (Ri r1.2.1) (.pair (I r1.2.2.1) (.eq (.int .u64 r1.2.2.2)))))])) ?_
 refine aq ?_
 refine nt ?_
 refine sr ?_
 iterate 2 refine mq ?_
 obtain⟨r4,SN,h⟩:=aa h
 have SQ:=qJ k (r1.2.1,r1.2.2.1,r1.2.2.2) c a1 r4 SN
 refine kb (ax [.tmp 12,.tmp 13] rfl rfl Q0 rfl SQ) ?_
 refine aq ?_
 refine nt ?_
 refine aJ (Z:=(Value×(Nat→Value))) (α:=(List Int)×Int×Int×(List (List Int))) (fun z6 x5=>[(5,.eq z6.1)]) (fun z6 x5=>[.obj c 56 (.agg (.pair (Ri x5.1) (.pair (I x5.2.1) (.eq (.int .u64 x5.2.2.1)))))]++wA 22 z6 x5.2.2.2) h (fun K h=>?_) (fun z6 x5 h=>?_)
 ·
  refine sr (cq (nt (ak ?_)));refine aH (Z:=(Value×(Nat→Value))) (α:=(List Int)×Int×Int×Int×(List (List Int))) (fun z8 y7=>[(0,Pt c),(5,.eq z8.1),(6,Ri r4.1),(7,I y7.2.2.2.1)]) (fun z8 y7=>[.obj c 56 (.agg (.pair (Ri y7.1) (.pair (I y7.2.1) (.eq (.int .u64 y7.2.2.1)))))]++wA 22 z8 y7.2.2.2.2) (eT k r4) k (v3,fun _=>.slice none 0 0) (r4.2.1,r4.2.2.1,r4.2.2.2,0,List.replicate (Int.toNat r1.1) ([]:(List Int))) (fun _=>rfl) h (kw [.obj c 56 (.agg (.pair (Ri r4.2.1) (.pair (I r4.2.2.1) (.eq (.int .u64 r4.2.2.2)))))] (wA 22 (v3,fun _=>.slice none 0 0) (List.replicate (Int.toNat r1.1) ([]:(List Int)))) [0] ⟨rfl,rfl,rfl,rfl,trivial⟩ rfl) (fun n z8 y7 h=>?_);unfold eT at h;refine am (sr ?_);iterate 2 refine mq ?_
  refine ol iC ?_;refine jb (bG rfl) ?_;refine nt (ci h (fun h=>?_) (fun h=>?_))
  ·refine sk (aJ (Z:=(Value×(Nat→Value))) (α:=(List Int)×Int×Int×(List (List Int))) (fun y x9=>[(0,Pt c),(5,.eq y.1),(6,Ri r4.1),(7,I y7.2.2.2.1)]) (fun y x9=>[.obj c 56 (.agg (.pair (Ri x9.1) (.pair (I x9.2.1) (.eq (.int .u64 x9.2.2.1)))))]++wA 22 y x9.2.2.2) h (fun K h=>?_) (fun y x9 h=>?_))
   ·refine ak (am (sr (mq ?_)));obtain⟨j,gq,h⟩:=aa h;refine kb (ax [.tmp 21,.const (.int .i64 (5))] rfl rfl M7 rfl (jm k (y7.1,y7.2.1,y7.2.2.1) c 5 j gq)) ?_;refine nt (cv h (fun h=>?_) (fun h=>?_))
    ·refine fU (bO (de (ap ?_)));exact uw (z8,(j.2.1,j.2.2.1,j.2.2.2,y7.2.2.2.2)) h (kw [.obj c 56 (.agg (.pair (Ri j.2.1) (.pair (I j.2.2.1) (.eq (.int .u64 j.2.2.2)))))] (wA 22 z8 y7.2.2.2.2) [0] ⟨rfl,rfl,rfl,rfl,trivial⟩ rfl)
    ·refine sk (sr ?_);iterate 2 refine mq ?_
     refine HE (pre:=[.obj c 56 (.agg (.pair (Ri j.2.1) (.pair (I j.2.2.1) (.eq (.int .u64 j.2.2.2)))))]) rfl rfl rfl rfl rfl sE ⟨rfl,trivial⟩ ?_;obtain⟨mc,Q,h⟩:=aa h;refine jb (ek rfl Q) ?_;obtain⟨e,Y,h⟩:=aa h;refine kb (ax [.tmp 23,.tmp 26] rfl rfl AG rfl (dq k (j.2.1,j.2.2.1,j.2.2.2) c mc e Y)) ?_;refine aq (nt ?_);obtain⟨x,s,h⟩:=aa h;refine gX (D1 (pre:=[.obj c 56 (.agg (.pair (Ri e.2.1) (.pair (I e.2.2.1) (.eq (.int .u64 e.2.2.2)))))]) (BB s).2) ?_;obtain⟨u,O,h⟩:=aa h;obtain⟨u16,X,h⟩:=aa h;refine HH (Δ:=[.sl (z8.2 (Int.toNat e.1)) 3 (.int .i64) x,.sl z8.1 22 .val (ny z8.2 0 y7.2.2.2.2),.obj c 56 (.agg (.pair (Ri e.2.1) (.pair (I e.2.2.1) (.eq (.int .u64 e.2.2.2)))))]) (F:=(nj z8.2 0 y7.2.2.2.2).eraseIdx (Int.toNat e.1)) (Z:=Value) (fun i=>[(0,Pt c),(5,.eq z8.1),(6,Ri r4.1),(7,I y7.2.2.2.1)]) (fun i=>[.sl z8.1 22 .val (List.set (ny z8.2 0 y7.2.2.2.2) (Int.toNat e.1) i),.sl i 3 (.int .i64) (x++[u]),.obj c 56 (.agg (.pair (Ri e.2.1) (.pair (I e.2.2.1) (.eq (.int .u64 e.2.2.2)))))]) (fun S w=>?_) (fun l=>?_)
     ·refine qV ?_;refine cy rfl rfl rfl (bM rfl) ⟨rfl,trivial⟩ ?_;refine cy rfl rfl rfl (bM rfl) ⟨rfl,trivial⟩ ?_;refine cy rfl rfl rfl (bM rfl) ⟨rfl,trivial⟩ ?_;refine cy rfl rfl rfl (bM rfl) ⟨rfl,trivial⟩ ?_;refine iY 1 rfl rfl rfl rfl (cz (t:=.val) rfl sE iD (sT s)) ⟨rfl,rfl,trivial⟩ ?_;refine iY 1 rfl rfl rfl rfl (gh (i:=Int.toNat e.1) (off:=0) rfl iD (fun _=>rfl) rfl (dr (sT s)).2.2 rfl) ⟨rfl,trivial⟩ ?_;refine cy rfl rfl rfl (bM rfl) ⟨rfl,trivial⟩ ?_;refine cy rfl rfl rfl (bM rfl) ⟨rfl,trivial⟩ ?_;refine cy rfl rfl rfl (be (t:=(.int .i64)) rfl iC bT O) ⟨rfl,rfl,trivial⟩ ?_;refine cy rfl rfl rfl (av (t:=(.int .i64)) rfl bT rfl) ⟨rfl,trivial⟩ ?_;refine cy rfl rfl rfl (bf (t:=(.int .i64)) [(.tmp 37,_)] [u] rfl rfl dn (.cons rfl .int .nil) rfl rfl) ⟨rfl,trivial⟩ ?_;refine HS 0 rfl (fun v=>[.sl v 3 (.int .i64) (x++[u])]) (fun _=>rfl) rfl rfl rfl (cx rfl rfl dn (ao X)) ⟨rfl,rfl,trivial⟩ ?_;refine xt 12 [true,true,true,true,true,true,true,true,true,true,true,true] [40] [] [] rfl (by kernel_rfl) (by kernel_rfl) (by kernel_rfl) eF (fun vs hv hB=>?_);obtain⟨w0,Ti,rfl,SL⟩:=aG hv;obtain⟨w1,Tf,rfl,SK⟩:=aG SL;obtain⟨w2,Td,rfl,SJ⟩:=aG SK;obtain⟨w3,Ta,rfl,SI⟩:=aG SJ;obtain⟨w4,S9,rfl,SH⟩:=aG SI;obtain⟨w5,S7,rfl,SG⟩:=aG SH;obtain⟨w6,S5,rfl,zz⟩:=aG SG;obtain⟨w7,SZ,rfl,qt⟩:=aG zz;obtain⟨w8,SY,rfl,mw⟩:=aG qt;obtain⟨w9,SV,rfl,J⟩:=aG mw;obtain⟨SX,SU,rfl,E⟩:=aG J;obtain⟨l,SS,rfl,D⟩:=aG E;obtain rfl:=s5 D;refine⟨[0,1,2],[.sl z8.1 22 .val (ny z8.2 0 y7.2.2.2.2),.obj c 56 (.agg (.pair (Ri e.2.1) (.pair (I e.2.2.1) (.eq (.int .u64 e.2.2.2))))),.sl l 3 (.int .i64) (x++[u])],by kernel_rfl,by decide,?_⟩;refine AV rfl rfl rfl rfl (cz (t:=.val) rfl sE iD (sT s)) ⟨rfl,rfl,trivial⟩ (by kernel_rfl) ?_;refine uu 2 rfl ?_;refine NG fun o18=>?_;refine uu 1 rfl ?_;refine sc rfl rfl (fY (i:=Int.toNat e.1) rfl iD rfl (mQ (sT s)) rfl (.val o18) o18) ⟨rfl,rfl,trivial⟩ (by kernel_rfl) ?_;refine xn ?_;refine b8 (SE.fin (Γ':=[(0,Pt c),(5,.eq z8.1),(6,Ri r4.1),(7,I y7.2.2.2.1)]) (Δ':=[.sl z8.1 22 .val (List.set (ny z8.2 0 y7.2.2.2.2) (Int.toNat e.1) l),.sl l 3 (.int .i64) (x++[u]),.obj c 56 (.agg (.pair (Ri e.2.1) (.pair (I e.2.2.1) (.eq (.int .u64 e.2.2.2)))))]) [0,1,2] ⟨rfl,rfl,rfl,rfl,trivial⟩ rfl) ?_;exact fun a w st=>⟨rfl,(l),(SE.fin (Γ':=[(0,Pt c),(5,.eq z8.1),(6,Ri r4.1),(7,I y7.2.2.2.1)]) (Δ':=[.sl z8.1 22 .val (List.set (ny z8.2 0 y7.2.2.2.2) (Int.toNat e.1) l),.sl l 3 (.int .i64) (x++[u]),.obj c 56 (.agg (.pair (Ri e.2.1) (.pair (I e.2.2.1) (.eq (.int .u64 e.2.2.2)))))]) [0,1,2] ⟨rfl,rfl,rfl,rfl,trivial⟩ rfl) a w st⟩
     ·show JN _ _ [(0,Pt c),(5,.eq z8.1),(6,Ri r4.1),(7,I y7.2.2.2.1)] ([.sl z8.1 22 .val (List.set (ny z8.2 0 y7.2.2.2.2) (Int.toNat e.1) l),.sl l 3 (.int .i64) (x++[u]),.obj c 56 (.agg (.pair (Ri e.2.1) (.pair (I e.2.2.1) (.eq (.int .u64 e.2.2.2)))))]++(nj z8.2 0 y7.2.2.2.2).eraseIdx (Int.toNat e.1));refine aO 1 rfl ?_;refine b8 (AS (pre:=[.obj c 56 (.agg (.pair (Ri e.2.1) (.pair (I e.2.2.1) (.eq (.int .u64 e.2.2.2)))))]) (z:=z8) (i:=Int.toNat e.1) (BB s).2) ?_;refine bn ?_;exact uw ((z8.1,zO z8.2 (Int.toNat e.1) l),(e.2.1,e.2.2.1,e.2.2.2,List.set y7.2.2.2.2 (Int.toNat e.1) (x++[u]))) h (kw [.obj c 56 (.agg (.pair (Ri e.2.1) (.pair (I e.2.2.1) (.eq (.int .u64 e.2.2.2)))))] (wA 22 (z8.1,zO z8.2 (Int.toNat e.1) l) (List.set y7.2.2.2.2 (Int.toNat e.1) (x++[u]))) [0] ⟨rfl,rfl,rfl,rfl,trivial⟩ rfl)
   ·refine ag (mq ?_);obtain⟨gw,M,h⟩:=aa h;refine jb (bB rfl M) ?_;refine aq (nl ?_);exact uw (y,(x9.1,x9.2.1,x9.2.2.1,gw,x9.2.2.2)) h (kw [.obj c 56 (.agg (.pair (Ri x9.1) (.pair (I x9.2.1) (.eq (.int .u64 x9.2.2.1)))))] (wA 22 y x9.2.2.2) [0] ⟨rfl,rfl,rfl,rfl,trivial⟩ rfl)
  ·refine xa ?_;exact uw (z8,(y7.1,y7.2.1,y7.2.2.1,y7.2.2.2.2)) h (kw [.obj c 56 (.agg (.pair (Ri y7.1) (.pair (I y7.2.1) (.eq (.int .u64 y7.2.2.1)))))] (wA 22 z8 y7.2.2.2.2) [0] ⟨rfl,trivial⟩ rfl)
 ·
  refine sr (mq ?_);refine aq (nt (aC ?_));refine b8 (Hy (pre:=[.obj c 56 (.agg (.pair (Ri x5.1) (.pair (I x5.2.1) (.eq (.int .u64 x5.2.2.1)))))])) ?_;refine b8 (iV [4,5,41] ⟨rfl,rfl,rfl,trivial⟩) ?_;cases h;exact aM () [_] 1 ⟨rfl,trivial⟩ rfl
def eU(k:Nat)(r2:Int×bR):Nat→((List Int)×Int×Int×(List (List (List Int)))×Int)→Option ((List (List (List Int)))×(List Int)×Int×Int)
 |0,_=>none
 |n+1,c=>
  if 0 < c.2.2.2.2 then(((((if 0 < (c.2.2.2.1.length:Int) then((eK k (c.1,c.2.1,c.2.2.1) 3).bind fun l=>
  some (l.2.1,l.2.2.1,l.2.2.2,l.1)) else(some (c.1,c.2.1,c.2.2.1,false))):Option ((List Int)×Int×Int×Bool)).bind fun e=>
  if e.2.2.2=true then((ck ((c.2.2.2.1.length:Int) - 1)).bind fun x=>
  (aX c.2.2.2.1 x).bind fun u=>
  (gR k u).bind fun r=>
  (cJ (cu (List.length c.2.2.2.1+List.length [r]))).bind fun _=>
  some (e.1,e.2.1,e.2.2.1,c.2.2.2.1++[r])) else((jJ k (e.1,e.2.1,e.2.2.1) r2.1).bind fun h=>
  (cJ (cu (List.length c.2.2.2.1+List.length [h.1]))).bind fun _=>
  some (h.2.1,h.2.2.1,h.2.2.2,c.2.2.2.1++[h.1]))):Option ((List Int)×Int×Int×(List (List (List Int))))).bind fun j=>
  (ck (c.2.2.2.2 - 1)).bind fun s=>
  eU k r2 n (j.1,j.2.1,j.2.2.1,j.2.2.2,s)) else(some (c.2.2.2.1,c.1,c.2.1,c.2.2.1))
def iu(k:Nat)(a0:bR)(a1:Int)(a2:Int):Option (ai×bR):=
 (fg k (a0.1,a0.2.1,a0.2.2) 1 a1).bind fun r2=>
 (cR k (r2.2.1,r2.2.2.1,r2.2.2.2) 3).bind fun r3=>
 (f9 k (r3.2.1,r3.2.2.1,r3.2.2.2) [0,1,1,2,r3.1]).bind fun r4=>
 (cR k (r4.2.1,r4.2.2.1,r4.2.2.2) 3).bind fun r5=>
 (f9 k (r5.2.1,r5.2.2.1,r5.2.2.2) [0,1,2,r5.1]).bind fun r6=>
 (fg k (r6.2.1,r6.2.2.1,r6.2.2.2) 1 3).bind fun r7=>
 (f9 k (r7.2.1,r7.2.2.1,r7.2.2.2) [1,2,r7.1]).bind fun r8=>
 (((fg k (r8.2.1,r8.2.2.1,r8.2.2.2) 1 a2).bind fun e=>
 eU k r2 k (e.2.1,e.2.2.1,e.2.2.2,([]:(List (List (List Int)))),e.1)):Option ((List (List (List Int)))×(List Int)×Int×Int)).bind fun c=>
 some ((r2.1,r4.1,r6.1,r8.1,c.1,[]),(c.2.1,c.2.2.1,c.2.2.2))
theorem tY(k:Nat)(a0:bR)(c:Nat)(a1:Int)(a2:Int)(r:ai×bR)(h:iu k a0 a1 a2=some r):
 dy Tryz.prog 8 [Pt c,I a1,I a2] [.obj c 56 (.agg (.pair (Ri a0.1) (.pair (I a0.2.1) (.eq (.int .u64 a0.2.2)))))] (fun _:Unit=>(bI [.agg (.pair (I r.1.1) (.pair (I r.1.2.1) (.pair (I r.1.2.2.1) (.pair (I r.1.2.2.2.1) (.pair (.rep (.slice (.slice (.slice (.int .i64)))) r.1.2.2.2.2.1) (.eq (.slice none 0 0)))))))],[.obj c 56 (.agg (.pair (Ri r.2.1) (.pair (I r.2.2.1) (.eq (.int .u64 r.2.2.2)))))])):=by
 unfold iu at h
 replace h:=bo h
 refine dy.of 67 Tryz.func8 rfl Tryz.ntmps8 rfl fun S w0=>?_
 refine sr ?_
 refine aZ rfl rfl rfl (bu rfl CS J1) trivial fun b1=>?_
 refine nt ?_
 refine sr ?_
 iterate 2 refine mq ?_
 obtain⟨r2,SS,h⟩:=aa h
 have S7:=iR k (a0.1,a0.2.1,a0.2.2) c 1 a1 r2 SS
 refine fr 1 ?_
 refine kc (ax [.tmp 10,.const (.int .i64 (1)),.tmp 11] rfl rfl JB rfl S7) ?_
 iterate 2 refine mq ?_
 obtain⟨r3,SR,h⟩:=aa h
 have S5:=dq k (r2.2.1,r2.2.2.1,r2.2.2.2) c 3 r3 SR
 refine kb (ax [.tmp 14,.const (.int .i64 (3))] rfl rfl AG rfl S5) ?_
 refine bU rfl (bf (t:=(.int .i64)) [(.const (.int .i64 (0)),_),(.const (.int .i64 (1)),_),(.const (.int .i64 (1)),_),(.const (.int .i64 (2)),_),(.tmp 15,_)] [0,1,1,2,r3.1] rfl rfl dn (.cons rfl .int (.cons rfl .int (.cons rfl .int (.cons rfl .int (.cons rfl .int .nil))))) rfl rfl) ⟨rfl,rfl,rfl,rfl,rfl,trivial⟩ ?_
 obtain⟨r4,SQ,h⟩:=aa h
 have SZ:=kX k (r3.2.1,r3.2.2.1,r3.2.2.2) c [0,1,1,2,r3.1] r4 SQ
 refine kb (ax [.tmp 13,.tmp 16] rfl rfl M8 rfl SZ) ?_
 iterate 2 refine mq ?_
 obtain⟨r5,SO,h⟩:=aa h
 have SY:=dq k (r4.2.1,r4.2.2.1,r4.2.2.2) c 3 r5 SO
 refine kb (ax [.tmp 19,.const (.int .i64 (3))] rfl rfl AG rfl SY) ?_
 refine bU rfl (bf (t:=(.int .i64)) [(.const (.int .i64 (0)),_),(.const (.int .i64 (1)),_),(.const (.int .i64 (2)),_),(.tmp 20,_)] [0,1,2,r5.1] rfl rfl dn (.cons rfl .int (.cons rfl .int (.cons rfl .int (.cons rfl .int .nil)))) rfl rfl) ⟨rfl,rfl,rfl,rfl,trivial⟩ ?_
 obtain⟨r6,SN,h⟩:=aa h
 have SX:=kX k (r5.2.1,r5.2.2.1,r5.2.2.2) c [0,1,2,r5.1] r6 SN
 refine kb (ax [.tmp 18,.tmp 21] rfl rfl M8 rfl SX) ?_
 iterate 2 refine mq ?_
 obtain⟨r7,SL,h⟩:=aa h
 have SV:=iR k (r6.2.1,r6.2.2.1,r6.2.2.2) c 1 3 r7 SL
 refine kc (ax [.tmp 24,.const (.int .i64 (1)),.const (.int .i64 (3))] rfl rfl JB rfl SV) ?_
 refine jc (bf (t:=(.int .i64)) [(.const (.int .i64 (1)),_),(.const (.int .i64 (2)),_),(.tmp 25,_)] [1,2,r7.1] rfl rfl dn (.cons rfl .int (.cons rfl .int (.cons rfl .int .nil))) rfl rfl) ?_
 obtain⟨r8,SK,h⟩:=aa h
 have SU:=kX k (r7.2.1,r7.2.2.1,r7.2.2.2) c [1,2,r7.1] r8 SK
 refine kb (ax [.tmp 23,.tmp 26] rfl rfl M8 rfl SU) ?_
 refine bU rfl (dC [(0,.tmp 12,_),(1,.tmp 17,_),(2,.tmp 22,_),(3,.tmp 27,_)] rfl On CS K7 (i8 ⟨rfl,rfl,rfl,rfl,trivial⟩) rfl) ⟨rfl,rfl,rfl,rfl,trivial⟩ ?_
 refine aZ rfl rfl rfl (bu rfl CS J1) trivial fun b9=>?_
 refine aU rfl rfl (aR rfl iZ trivial rfl rfl) ⟨rfl,rfl,trivial⟩ ?_
 refine nt ?_
 refine aJ (Z:=Value) (α:=(List (List (List Int)))×(List Int)×Int×Int) (fun J y=>[(6,Pt b1),(7,Pt b9)]) (fun J y=>[.obj b1 28 (.agg (.pair (I 0) (.pair (I 0) (.pair (I 0) (.pair (I 0) (.pair (.eq (.slice none 0 0)) (.eq (.slice none 0 0)))))))),.obj b9 28 (.agg (.pair (I r2.1) (.pair (I r4.1) (.pair (I r6.1) (.pair (I r8.1) (.pair (.eq J) (.eq (.slice none 0 0)))))))),.sl J 32 (.slice (.slice (.int .i64))) y.1,.obj c 56 (.agg (.pair (Ri y.2.1) (.pair (I y.2.2.1) (.eq (.int .u64 y.2.2.2)))))]) h (fun K h=>?_) (fun J y h=>?_)
 ·
  refine sr ?_;iterate 2 refine mq ?_
  obtain⟨F,qt,h⟩:=aa h;refine fr 1 ?_;refine kc (ax [.tmp 29,.const (.int .i64 (1)),.tmp 30] rfl rfl JB rfl (iR k (r8.2.1,r8.2.2.1,r8.2.2.2) c 1 a2 F qt)) ?_;refine aq (nt (ak ?_));refine gX (SE.nil 32 (.slice (.slice (.int .i64)))) ?_;refine aH (fun u e=>[(0,Pt c),(6,Pt b1),(7,Pt b9),(8,I e.2.2.2.2)]) (fun u e=>[.obj c 56 (.agg (.pair (Ri e.1) (.pair (I e.2.1) (.eq (.int .u64 e.2.2.1))))),.obj b1 28 (.agg (.pair (I 0) (.pair (I 0) (.pair (I 0) (.pair (I 0) (.pair (.eq (.slice none 0 0)) (.eq (.slice none 0 0)))))))),.obj b9 28 (.agg (.pair (I r2.1) (.pair (I r4.1) (.pair (I r6.1) (.pair (I r8.1) (.pair (.eq u) (.eq (.slice none 0 0)))))))),.sl u 32 (.slice (.slice (.int .i64))) e.2.2.2.1]) (eU k r2) k (.slice none 0 0) (F.2.1,F.2.2.1,F.2.2.2,([]:(List (List (List Int)))),F.1) (fun _=>rfl) h (SE.fin [1,3,2,0] ⟨rfl,rfl,rfl,rfl,trivial⟩ rfl) (fun n u e h=>?_);unfold eU at h;refine am (sr (mq ?_));refine jb (oZ rfl) ?_;refine nt (ci h (fun h=>?_) (fun h=>?_))
  ·refine sk (aJ (Z:=Value) (α:=(List Int)×Int×Int×(List (List (List Int)))) (fun D l=>[(0,Pt c),(6,Pt b1),(7,Pt b9),(8,I e.2.2.2.2)]) (fun D l=>[.obj c 56 (.agg (.pair (Ri l.1) (.pair (I l.2.1) (.eq (.int .u64 l.2.2.1))))),.obj b1 28 (.agg (.pair (I 0) (.pair (I 0) (.pair (I 0) (.pair (I 0) (.pair (.eq (.slice none 0 0)) (.eq (.slice none 0 0)))))))),.obj b9 28 (.agg (.pair (I r2.1) (.pair (I r4.1) (.pair (I r6.1) (.pair (I r8.1) (.pair (.eq D) (.eq (.slice none 0 0)))))))),.sl D 32 (.slice (.slice (.int .i64))) l.2.2.2]) h (fun K h=>?_) (fun D l h=>?_))
   ·refine ak (am (sr (fl eL ?_)));refine fr 2 ?_;refine lo lN ?_;refine fr 3 ?_;refine ka (lZ rfl rfl AQ) ?_;refine aq (nt ?_);refine aJ (Z:=Unit) (α:=(List Int)×Int×Int×Bool) (fun Q j=>[(0,Pt c),(6,Pt b1),(7,Pt b9),(8,I e.2.2.2.2),(9,I (e.2.2.2.1.length:Int)),(44,.eq (.bool j.2.2.2))]) (fun Q j=>[.obj c 56 (.agg (.pair (Ri j.1) (.pair (I j.2.1) (.eq (.int .u64 j.2.2.1))))),.obj b1 28 (.agg (.pair (I 0) (.pair (I 0) (.pair (I 0) (.pair (I 0) (.pair (.eq (.slice none 0 0)) (.eq (.slice none 0 0)))))))),.obj b9 28 (.agg (.pair (I r2.1) (.pair (I r4.1) (.pair (I r6.1) (.pair (I r8.1) (.pair (.eq u) (.eq (.slice none 0 0)))))))),.sl u 32 (.slice (.slice (.int .i64))) e.2.2.2.1]) h (fun K h=>?_) (fun Q j h=>?_)
    ·refine ag (mq ?_);refine jb (oZ rfl) ?_;refine mq ?_;refine cF (s:=41) rfl (fun hb=>?_) (fun hb=>?_)
     ·replace h:=eO (uU hb) h;refine gm ?_;obtain⟨E,mw,h⟩:=aa h;refine fr 2 ?_;refine lR rfl rfl rfl rfl rfl rfl (ax [.tmp 42,.const (.int .i64 (3))] rfl rfl M7 rfl (jm k (e.1,e.2.1,e.2.2.1) c 3 E mw)) ⟨rfl,rfl,trivial⟩ ?_;refine pt (nl ?_);exact jz ((),(E.2.1,E.2.2.1,E.2.2.2,E.1)) h [0,3,2,1]
     ·replace h:=cV (uV hb) h;iterate 2 refine gn ?_
      refine pf (nl ?_);exact jz ((),(e.1,e.2.1,e.2.2.1,false)) h [2,3,1,0]
    ·refine cv h (fun h=>?_) (fun h=>?_)
     ·refine am (cS ?_);refine da (aN rfl eL) ?_;refine ea 2 (aD rfl lN pX rfl) ?_;refine da (aN rfl eL) ?_;refine ea 2 (aD rfl lN pX rfl) ?_;refine dm ?_;obtain⟨SH,X,h⟩:=aa h;refine db (ek rfl X) ?_;obtain⟨SG,M,h⟩:=aa h;refine eb 3 (cz (t:=(.slice (.slice (.int .i64)))) rfl AQ xX M) ?_;refine ea 3 (gh (i:=Int.toNat SH) (off:=0) rfl xX (fun _=>rfl) rfl (dr M).2.2 rfl) ?_;obtain⟨O,mc,h⟩:=aa h;refine da (Cj (ax [.tmp 52] rfl rfl Q9 rfl (rP k SG O mc))) ?_;refine da (bf (t:=(.slice (.slice (.int .i64)))) [(.tmp 53,_)] [O] rfl rfl zN (.cons rfl .rep .nil) rfl rfl) ?_;refine df eF ?_;obtain⟨Ta,gq,h⟩:=aa h;refine fr 3 ?_;refine dN rfl rfl rfl (cx rfl rfl zN (ao gq)) ⟨rfl,rfl,trivial⟩ fun SJ=>?_;refine fl eL ?_;refine sd fun o25=>?_;refine fr 3 ?_;refine aU rfl rfl (aR rfl lN o25 rfl rfl) ⟨rfl,rfl,trivial⟩ ?_;refine nt (fU (bO (de (ap ?_))));exact jz (SJ,(j.1,j.2.1,j.2.2.1,e.2.2.2.1++[O])) h [2,3,0,1]
     ·refine sk (cS ?_);refine da (aN rfl eL) ?_;refine ea 2 (aD rfl lN pX rfl) ?_;refine dm ?_;refine da (aN rfl eX) ?_;refine ea 2 (aD rfl bT pX rfl) ?_;obtain⟨x,gw,h⟩:=aa h;refine CO 0 rfl rfl rfl rfl (ax [.tmp 59,.tmp 61] rfl rfl Q8 rfl (tV k (j.1,j.2.1,j.2.2.1) c r2.1 x gw)) ⟨rfl,rfl,trivial⟩ ?_;refine da (bf (t:=(.slice (.slice (.int .i64)))) [(.tmp 62,_)] [x.1] rfl rfl zN (.cons rfl .rep .nil) rfl rfl) ?_;refine CP (Δ':=[.obj b1 28 (.agg (.pair (I 0) (.pair (I 0) (.pair (I 0) (.pair (I 0) (.pair (.eq (.slice none 0 0)) (.eq (.slice none 0 0)))))))),.obj b9 28 (.agg (.pair (I r2.1) (.pair (I r4.1) (.pair (I r6.1) (.pair (I r8.1) (.pair (.eq u) (.eq (.slice none 0 0)))))))),.sl u 32 (.slice (.slice (.int .i64))) e.2.2.2.1,.obj c 56 (.agg (.pair (Ri x.2.1) (.pair (I x.2.2.1) (.eq (.int .u64 x.2.2.2)))))]) (by kernel_rfl) eF (by kernel_rfl) ?_;obtain⟨S9,Y,h⟩:=aa h;refine fr 2 ?_;refine dN rfl rfl rfl (cx rfl rfl zN (ao Y)) ⟨rfl,rfl,trivial⟩ fun SI=>?_;refine fl eL ?_;refine sd fun o29=>?_;refine fr 2 ?_;refine aU rfl rfl (aR rfl lN o29 rfl rfl) ⟨rfl,rfl,trivial⟩ ?_;refine aE (bn ?_);exact jz (SI,(x.2.1,x.2.2.1,x.2.2.2,e.2.2.2.1++[x.1])) h [3,2,0,1]
   ·refine ag (mq ?_);obtain⟨zz,U,h⟩:=aa h;refine jb (ek rfl U) ?_;refine aq (nl ?_);exact jz (D,(l.1,l.2.1,l.2.2.1,l.2.2.2,zz)) h [0,1,2,3]
  ·refine xa ?_;exact jz (u,(e.2.2.2.1,e.1,e.2.1,e.2.2.1)) h [1,2,3,0]
 ·
  refine sr (fr 1 ?_);refine fr 2 ?_;refine dX (pW (off:=4) [] trivial rfl rfl) ?_;refine lo iZ ?_;refine fr 1 ?_;refine aU rfl rfl (aR rfl iZ trivial rfl rfl) ⟨rfl,rfl,trivial⟩ ?_;refine nt (aC (b8 (SE.fin (Γ':=[(6,_)]) [2,0,1] ⟨rfl,trivial⟩ rfl) ?_));cases h;exact aM () [.agg (.pair (I r2.1) (.pair (I r4.1) (.pair (I r6.1) (.pair (I r8.1) (.pair (.rep (.slice (.slice (.slice (.int .i64)))) y.1) (.eq (.slice none 0 0)))))))] 1 ⟨⟨_,_,_,_,_,rfl,(.tail _ (.head _)),iZ,(qD),rfl⟩,trivial⟩ rfl
def ew(k:Nat)(a0:ai)(a1:(List Int)):Nat→(Int×Int)→Option (Except ((Option ai)×Int×Int) Int)
 |0,_=>none
 |n+1,y5=>
  if y5.2 < (a1.length:Int) then((aX a1 y5.2).bind fun x7=>
  (ck (a0.1 - 1)).bind fun x8=>
  (dp k x7 0 x8).bind fun r9=>
  if¬(r9=true) then(some (.error (none,0,3))) else(((if 0 < y5.2 then((ck (y5.2 - 1)).bind fun h=>
  (aX a1 h).bind fun e=>
  some (decide (x7≤e))) else(some false)):Option (Bool)).bind fun j=>
  if j=true then(some (.error (none,0,5))) else((fy k y5.1 x7).bind fun l=>
  (ck (y5.2+1)).bind fun c=>
  ew k a0 a1 n (l,c)))) else(some (.ok y5.1))
def di(k:Nat)(a0:ai)(h:Int)(e:(List Int)):Nat→Int→Option (Except ((Option ai)×Int×Int) Unit)
 |0,_=>none
 |n+1,c=>
  if c < (e.length:Int) then((aX e c).bind fun u=>
  (ck (a0.1 - 1)).bind fun s=>
  (ck ((a0.2.2.2.2.1.length:Int) - 1)).bind fun r=>
  (aX [s,r,(a0.2.2.2.2.1.length:Int)] h).bind fun l=>
  (dp k u 0 l).bind fun x=>
  if¬(x=true) then(some (.error (none,0,3))) else((ck (c+1)).bind fun j=>
  di k a0 h e n j)) else(some (.ok ()))
def cI(k:Nat)(a0:ai)(a2:(List Int))(a3:(List Int))(a4:(List Int)):Nat→Int→Option (Except ((Option ai)×Int×Int) Unit)
 |0,_=>none
 |n+1,c=>
  if c < ([a2,a3,a4].length:Int) then(bE (α:=Unit) ((aX [a2,a3,a4] c).bind fun j=>
  di k a0 c j k 0) (fun e=>some (.error e)) fun _=>
  (ck (c+1)).bind fun h=>
  cI k a0 a2 a3 a4 n h) else(some (.ok ()))
def jG(k:Nat)(a0:ai)(a1:(List Int))(a2:(List Int))(a3:(List Int))(a4:(List Int)):Option ((Option ai)×Int×Int):=
 (ma k a0).bind fun r2=>
 if¬(r2=0) then(some (none,0,r2)) else(bE (α:=Int) (ew k a0 a1 k (0,0)) (some) fun x3=>
 bE (α:=Unit) (cI k a0 a2 a3 a4 k 0) (some) fun _=>
 (iL k a0).bind fun e=>
 fa e (none) (fun c=>(dR k c).bind fun h=>
 some (some c,x3,0)))
theorem lC(k:Nat)(a0:ai)(a1:(List Int))(a2:(List Int))(a3:(List Int))(a4:(List Int))(r:(Option ai)×Int×Int)(h:jG k a0 a1 a2 a3 a4=some r):
 bX (dE Tryz.prog) 28 [.rep ab a0,Ri a1,Ri a2,Ri a3,Ri a4] [] (fun z:Nat×Nat=>(bI [IJ r.1 z.1,.eq (.int .u8 r.2.1),I r.2.2],II r.1 fun q=>qd q z.1 z.2 k)):=by
 unfold jG at h
 replace h:=bo h
 refine bX.of 95 Tryz.func28 rfl Tryz.ntmps28 rfl fun S w0=>?_
 refine sr ?_
 refine bx fun b1=>?_
 refine cq ?_
 refine cq ?_
 refine cq ?_
 refine nt ?_
 refine am ?_
 refine sr ?_
 refine lo iZ ?_
 obtain⟨r2,Td,h⟩:=aa h
 have Tf:=wK k a0 r2 Td
 refine ja (ax [.tmp 22] rfl rfl QZ rfl Tf) ?_
 refine aq ?_
 refine nt ?_
 refine sr ?_
 refine mq ?_
 refine jb (eR rfl) ?_
 refine nt ?_
 refine cn h (fun h=>?_) (fun h=>?_)
 ·
  refine sr (mq ?_);refine cq ?_;refine cq ?_;refine aq (nt (rx ?_));cases h;exact aM (0,0) [.eq (.pointer none),_,_] 0 ⟨rfl,rfl,rfl,trivial⟩ rfl
 ·
  refine sk (sr (cq (nt ?_)));refine dx (Z:=Unit) (α:=Int) (fun z4 x3=>[(2,Ri a2),(3,Ri a3),(4,Ri a4),(5,Pt b1),(14,.eq (.int .u8 x3))]) (fun z4 x3=>[.obj b1 28 (.rep ab a0)]) (fun e=>e=r) h (fun e h=>Option.some.inj h) (fun K hR h=>?_) (fun z4 x3 h=>?_)
  ·refine sr (mq ?_);refine ol iC ?_;refine dT rfl ?_;refine nt (ak (aH (fun z6 y5=>[(1,Ri a1),(2,Ri a2),(3,Ri a3),(4,Ri a4),(5,Pt b1),(14,.eq (.int .u8 y5.1)),(27,Ri a1),(28,I (a1.length:Int)),(29,I y5.2)]) (fun z6 y5=>[.obj b1 28 (.rep ab a0)]) (ew k a0 a1) k () (0,0) (fun _=>rfl) h (SE.fin [0] ⟨rfl,rfl,rfl,rfl,rfl,rfl,rfl,rfl,rfl,trivial⟩ rfl) (fun n z6 y5 h=>?_)));unfold ew at h;refine sr (jb (bG rfl) ?_);refine nt (am (ci h (fun h=>?_) (fun h=>?_)))
   ·refine sk (am (ak (sr (mq ?_))));obtain⟨x7,S9,h⟩:=aa h;refine jb (be (t:=(.int .i64)) rfl iC bT S9) ?_;refine ja (av (t:=(.int .i64)) rfl bT rfl) ?_;refine aq ?_;refine aq (nt (am (sr ?_)));refine mq ?_;refine fl eX ?_;refine lo bT ?_;obtain⟨x8,S7,h⟩:=aa h;refine jb (ek rfl S7) ?_;obtain⟨r9,Ta,h⟩:=aa h;refine jc (ax [.tmp 34,.const (.int .i64 (0)),.tmp 37] rfl rfl wX rfl (dw k x7 0 x8 r9 Ta)) ?_;refine ja (gJ rfl) ?_;refine nt (cw h (fun h=>?_) (fun h=>?_))
    ·refine sr (cq ?_);refine cq ?_;refine cq (nt (rx (br (bH (bF ?_)))));obtain rfl:=hR _ h;exact aM (0,0) [.eq (.pointer none),_,_] 0 ⟨rfl,rfl,rfl,trivial⟩ rfl
    ·refine sk (am (aJ (Z:=Unit) (α:=Bool) (fun O y=>[(1,Ri a1),(2,Ri a2),(3,Ri a3),(4,Ri a4),(5,Pt b1),(14,.eq (.int .u8 y5.1)),(16,I x7),(27,Ri a1),(28,I (a1.length:Int)),(29,I y5.2),(50,.eq (.bool y))]) (fun O y=>[.obj b1 28 (.rep ab a0)]) h (fun K h=>?_) (fun O y h=>?_)))
     ·refine ag (mq ?_);refine jb (oZ rfl) ?_;refine mq ?_;refine cF (s:=42) rfl (fun hb=>?_) (fun hb=>?_)
      ·replace h:=eO (uU hb) h;refine gm ?_;refine gm ?_;refine gm ?_;obtain⟨Tm,SJ,h⟩:=aa h;refine gb (ek rfl SJ) ?_;obtain⟨SX,SI,h⟩:=aa h;refine gb (be (t:=(.int .i64)) rfl iC bT SI) ?_;refine ga (av (t:=(.int .i64)) rfl bT rfl) ?_;refine gb (Bd rfl) ?_;refine pt (nl ?_);exact jz ((),decide (x7≤SX)) h [0]
      ·replace h:=cV (uV hb) h;iterate 7 refine gn ?_
       refine pf (nl ?_);exact jz ((),false) h [0]
     ·refine cv h (fun h=>?_) (fun h=>?_)
      ·refine sr (cq ?_);refine cq ?_;refine cq (nt (rx (br (bH (bF ?_)))));obtain rfl:=hR _ h;exact aM (0,0) [.eq (.pointer none),_,_] 0 ⟨rfl,rfl,rfl,trivial⟩ rfl
      ·refine sk (ag ?_);iterate 2 refine mq ?_
       obtain⟨Y,SO,h⟩:=aa h;refine jb (ax [.tmp 51,.tmp 52] rfl rfl M4 rfl (jZ k y5.1 x7 Y SO)) ?_;refine aq (aE (aS (tn (ag ?_))));obtain⟨SV,SH,h⟩:=aa h;refine jb (bB rfl SH) ?_;refine mq (nl ?_);exact jz ((),(Y,SV)) h [0]
   ·refine xa ?_;exact jz ((),y5.1) h [0]
  ·refine dx (Z:=Unit) (α:=Unit) (fun M U=>[(5,Pt b1),(14,.eq (.int .u8 x3))]) (fun M U=>[.obj b1 28 (.rep ab a0)]) (fun e=>e=r) h (fun e h=>Option.some.inj h) (fun K hR h=>?_) (fun M U h=>?_)
   ·refine sr ?_;iterate 3 refine mq ?_
    refine jc (bf (t:=(.slice (.int .i64))) [(.tmp 55,_),(.tmp 56,_),(.tmp 57,_)] [a2,a3,a4] rfl rfl oQ (.cons rfl .rep (.cons rfl .rep (.cons rfl .rep .nil))) rfl rfl) ?_;refine ol sE ?_;refine dT rfl ?_;refine nt (ak (aH (fun J c=>[(5,Pt b1),(14,.eq (.int .u8 x3)),(58,.rep (.slice (.slice (.int .i64))) [a2,a3,a4]),(59,I ([a2,a3,a4].length:Int)),(60,I c)]) (fun J c=>[.obj b1 28 (.rep ab a0)]) (cI k a0 a2 a3 a4) k () 0 (fun _=>rfl) h (SE.fin [0] ⟨rfl,rfl,rfl,rfl,rfl,trivial⟩ rfl) (fun n J c h=>?_)));unfold cI at h;refine sr (jb (bG rfl) ?_);refine nt (am (ci h (fun h=>?_) (fun h=>?_)))
    ·refine sk (dx (Z:=Unit) (α:=Unit) (fun E Q=>[(5,Pt b1),(14,.eq (.int .u8 x3)),(58,.rep (.slice (.slice (.int .i64))) [a2,a3,a4]),(59,I ([a2,a3,a4].length:Int)),(60,I c)]) (fun E Q=>[.obj b1 28 (.rep ab a0)]) (fun e=>e=r) h (fun e h=>hR e h) (fun K hR h=>?_) (fun E Q h=>?_))
     ·refine ak (sr (mq ?_));obtain⟨x,SG,h⟩:=aa h;refine jb (be (t:=(.slice (.int .i64))) rfl sE iD SG) ?_;refine ja (av (t:=(.slice (.int .i64))) rfl iD rfl) ?_;refine aq ?_;refine aq (nt (sr ?_));refine mq ?_;refine ol iC ?_;refine dT rfl ?_;refine nt (ak (aH (fun D u=>[(5,Pt b1),(14,.eq (.int .u8 x3)),(17,I c),(58,.rep (.slice (.slice (.int .i64))) [a2,a3,a4]),(59,I ([a2,a3,a4].length:Int)),(60,I c),(65,Ri x),(66,I (x.length:Int)),(67,I u)]) (fun D u=>[.obj b1 28 (.rep ab a0)]) (di k a0 c x) k () 0 (fun _=>rfl) h (SE.fin [0] ⟨rfl,rfl,rfl,rfl,rfl,rfl,rfl,rfl,rfl,trivial⟩ rfl) (fun n D u h=>?_)));unfold di at h;refine sr (jb (bG rfl) ?_);refine nt (am (ci h (fun h=>?_) (fun h=>?_)))
      ·refine sk (am (ak (sr ?_)));obtain⟨SU,zz,h⟩:=aa h;refine jb (be (t:=(.int .i64)) rfl iC bT zz) ?_;refine ja (av (t:=(.int .i64)) rfl bT rfl) ?_;refine aq (nt (sr ?_));refine mq ?_;refine fl eX ?_;refine lo bT ?_;obtain⟨Tj,qt,h⟩:=aa h;refine jb (ek rfl qt) ?_;refine fl eL ?_;refine lo lN ?_;refine ol AQ ?_;obtain⟨Ti,mw,h⟩:=aa h;refine jb (ek rfl mw) ?_;refine fl eL ?_;refine lo lN ?_;refine ol AQ ?_;refine jc (Dh rfl RP bT Qg) ?_;refine mq ?_;obtain⟨SS,mc,h⟩:=aa h;refine jb (dO (t:=(.int .i64)) rfl RP bT rfl rfl (fun _=>rfl) mc) ?_;obtain⟨SZ,SN,h⟩:=aa h;refine jc (ax [.tmp 71,.const (.int .i64 (0)),.tmp 84] rfl rfl wX rfl (dw k SU 0 SS SZ SN)) ?_;refine ja (gJ rfl) ?_;refine nt (cw h (fun h=>?_) (fun h=>?_))
       ·refine sr (cq ?_);refine cq ?_;refine cq (nt (aC (br (bH (br (bH (bF ?_)))))));obtain rfl:=hR _ h;exact aM (0,0) [.eq (.pointer none),_,_] 0 ⟨rfl,rfl,rfl,trivial⟩ rfl
       ·refine bh (aS (tn (ag ?_)));obtain⟨SR,gw,h⟩:=aa h;refine jb (bB rfl gw) ?_;refine mq (nl ?_);exact jz ((),SR) h [0]
      ·refine fU (bO (bO (de (bn ?_))));exact jz ((),()) h [0]
     ·refine ag ?_;obtain⟨SQ,gq,h⟩:=aa h;refine jb (bB rfl gq) ?_;refine mq (nl ?_);exact jz ((),SQ) h [0]
    ·refine xa ?_;exact jz ((),()) h [0]
   ·refine sr (lo iZ ?_);obtain⟨X,SL,h⟩:=aa h;have j:=nf k a0 X SL;rcases hr:X with _ |S5
    ·rw [hr] at h j;replace h:=ua h;refine ay (Δ:=[]) (F:=_) (fun _ _ _=>ae rfl _) rfl rfl (ax [.tmp 89] rfl rfl Jy rfl j) ⟨rfl,trivial⟩ fun _=>?_;cases h
    ·rw [hr] at h j;replace h:=t9 h;refine ay (Δ:=[]) (F:=_) (fun _ _ _=>ae rfl _) rfl rfl (ax [.tmp 89] rfl rfl Jy rfl j) ⟨rfl,trivial⟩ fun l=>?_;refine aq (nt (sr ?_));refine mq ?_;obtain⟨SY,SK,h⟩:=aa h;refine fr 1 ?_;refine fr 1 ?_;refine ay (Δ:=[_,_]) (F:=_) (fun _ _ _=>ae rfl _) rfl rfl (aK [.tmp 91] rfl rfl QY rfl (pC k S5 l.1 l.2 SY SK)) ⟨rfl,trivial⟩ fun _=>?_;refine nt (sr ?_);iterate 2 refine mq ?_
     refine aq ?_;refine aq ?_;refine cq (nt (aC ?_));cases h;exact aM (l.1,l.2) [.eq (.pointer (some ⟨l.1,0,none⟩)),_,_] 2 ⟨rfl,rfl,rfl,trivial⟩ rfl
def dP(k:Nat)(a0:ai)(r5:(List (List Int)))(x9:Int):Nat→((List (List Int))×Int)→Option (List (List Int))
 |0,_=>none
 |n+1,c=>
  if c.2 < x9 then((aX r5 c.2).bind fun j=>
  (cJ (0≤a0.1∧a0.1≤5)).bind fun _=>
  (gI k (List.take (Int.toNat a0.1) j)).bind fun e=>
  (cJ (cu (List.length c.1+List.length [e]))).bind fun _=>
  (ck (c.2+1)).bind fun h=>
  dP k a0 r5 x9 n (c.1++[e],h)) else(some c.1)
def fB(k:Nat)(a0:ai)(a1:(List Int)):Option ((List (List Int))×Int):=
 (jG k a0 a1 ([]:(List Int)) ([]:(List Int)) ([]:(List Int))).bind fun r2=>
 fa r2.1 (if¬(r2.2.2=0) then(some (([]:(List (List Int))),r2.2.2)) else(none)) (fun q3=>if¬(r2.2.2=0) then(some (([]:(List (List Int))),r2.2.2)) else((lu k q3 r2.2.1).bind fun r5=>
 (((ck ((a0.2.2.2.2.1.length:Int)+1)).bind fun x9=>
 dP k a0 r5 x9 k (([]:(List (List Int))),0)):Option ((List (List Int)))).bind fun x7=>
 some (x7,0)))
theorem jA(k:Nat)(a0:ai)(a1:(List Int))(r:(List (List Int))×Int)(h:fB k a0 a1=some r):
 bX (dE Tryz.prog) 11 [.rep ab a0,Ri a1] [] (fun _:Unit=>(bI [.rep (.slice (.slice (.int .i64))) r.1,I r.2],[])):=by
 unfold fB at h
 replace h:=bo h
 refine bX.of 43 Tryz.func11 rfl Tryz.ntmps11 rfl fun S w0=>?_
 refine sr ?_
 refine bx fun b1=>?_
 refine cq ?_
 refine cq ?_
 refine nt ?_
 refine sr ?_
 refine lo iZ ?_
 refine mq ?_
 obtain⟨r2,X,h⟩:=aa h
 have j:=lC k a0 a1 ([]:(List Int)) ([]:(List Int)) ([]:(List Int)) r2 X
 rcases hr:r2.1 with _ |q3
 ·
  rw [hr] at h j;replace h:=ua h;refine ay (Δ:=[]) (F:=_) (fun _ _ _=>ae rfl _) rfl rfl (bv (N:=[(.tmp 13,.rep ab a0),(.tmp 14,Ri a1),(.const (.slice none 0 0),.eq (.slice none 0 0)),(.const (.slice none 0 0),.eq (.slice none 0 0)),(.const (.slice none 0 0),.eq (.slice none 0 0))]) (aK [.tmp 13,.tmp 14,.const (.slice none 0 0),.const (.slice none 0 0),.const (.slice none 0 0)] rfl rfl yL rfl j) fun _ _ _ hn=>⟨hn.1,hn.2.1,(aA (t:=(.slice (.int .i64))) (x:=([]:(List Int))) .nil rfl rfl hn.2.2.1),(aA (t:=(.slice (.int .i64))) (x:=([]:(List Int))) .nil rfl rfl hn.2.2.2.1),(aA (t:=(.slice (.int .i64))) (x:=([]:(List Int))) .nil rfl rfl hn.2.2.2.2.1),trivial⟩) ⟨rfl,rfl,rfl,rfl,rfl,trivial⟩ fun _=>?_;refine mq ?_;refine xr ?_;refine xr ?_;refine xr ?_;refine aq ?_;refine aq ?_;refine aq (nt (am (sr ?_)));refine mq ?_;refine jb (eR rfl) ?_;refine nt (cn h (fun h=>?_) (fun h=>?_))
  ·refine sr (mq ?_);refine cq ?_;refine aq (nt (rx ?_));refine b8 (d4 (t:=(.slice (.slice (.int .i64)))) (x:=([]:(List (List Int)))) 4 rfl .nil rfl rfl) ?_;cases h;exact rb
  ·cases h
 ·
  rw [hr] at h j;replace h:=t9 h;refine ay (Δ:=[]) (F:=_) (fun _ _ _=>ae rfl _) rfl rfl (bv (N:=[(.tmp 13,.rep ab a0),(.tmp 14,Ri a1),(.const (.slice none 0 0),.eq (.slice none 0 0)),(.const (.slice none 0 0),.eq (.slice none 0 0)),(.const (.slice none 0 0),.eq (.slice none 0 0))]) (aK [.tmp 13,.tmp 14,.const (.slice none 0 0),.const (.slice none 0 0),.const (.slice none 0 0)] rfl rfl yL rfl j) fun _ _ _ hn=>⟨hn.1,hn.2.1,(aA (t:=(.slice (.int .i64))) (x:=([]:(List Int))) .nil rfl rfl hn.2.2.1),(aA (t:=(.slice (.int .i64))) (x:=([]:(List Int))) .nil rfl rfl hn.2.2.2.1),(aA (t:=(.slice (.int .i64))) (x:=([]:(List Int))) .nil rfl rfl hn.2.2.2.2.1),trivial⟩) ⟨rfl,rfl,rfl,rfl,rfl,trivial⟩ fun z4=>?_;refine mq ?_;refine xr ?_;refine xr ?_;refine xr ?_;refine aq ?_;refine aq ?_;refine aq (nt (am (sr ?_)));refine mq ?_;refine jb (eR rfl) ?_;refine nt (cn h (fun h=>?_) (fun h=>?_))
  ·refine sr (mq ?_);refine cq ?_;refine aq (nt (rx ?_));refine b8 (d4 (t:=(.slice (.slice (.int .i64)))) (x:=([]:(List (List Int)))) 4 rfl .nil rfl rfl) ?_;cases h;exact rb
  ·refine sk (sr (cq (nt (sr ?_))));iterate 2 refine mq ?_
   obtain⟨r5,U,h⟩:=aa h;refine fr 1 ?_;refine fr 1 ?_;refine ay (Δ:=[_,_]) (F:=_) (fun _ _ _=>ae rfl _) rfl rfl (aK [.tmp 22,.tmp 23] rfl rfl nX rfl (eI k q3 z4.1 z4.2 r2.2.1 r5 U)) ⟨rfl,rfl,trivial⟩ fun _=>?_;refine aZ rfl rfl rfl (bu rfl Ej Hj) trivial fun b6=>?_;refine aU rfl rfl (aR rfl EW rfl rfl rfl) ⟨rfl,rfl,trivial⟩ ?_;refine dX (jr (t:=(.arr 7 (.arr 5 (.int .i64)))) (x:=r5) [10] .rep ⟨rfl,trivial⟩) ?_;refine nt (aJ (Z:=Value) (α:=(List (List Int))) (fun z8 x7=>[(9,.eq z8)]) (fun z8 x7=>[.sl z8 22 (.slice (.int .i64)) x7,.inv z4.2 (aI k q3)]) h (fun K h=>?_) (fun z8 x7 h=>?_))
   ·refine sr (fl eL ?_);refine fr 2 ?_;refine lo lN ?_;refine ol AQ ?_;obtain⟨x9,Q,h⟩:=aa h;refine jb (bB rfl Q) ?_;refine dT rfl ?_;refine nt (ak (gX (SE.nil 22 (.slice (.int .i64))) ?_));refine aH (fun e c=>[(2,Pt b1),(9,.eq e),(10,.at (.arr 7 (.arr 5 (.int .i64))) r5),(28,I x9),(29,I c.2)]) (fun e c=>[.obj b1 28 (.rep ab a0),.sl e 22 (.slice (.int .i64)) c.1,.inv z4.2 (aI k q3)]) (dP k a0 r5 x9) k (.slice none 0 0) (([]:(List (List Int))),0) (fun _=>rfl) h (SE.fin [1,0,3] ⟨rfl,rfl,rfl,rfl,rfl,trivial⟩ rfl) (fun n e c h=>?_);unfold dP at h;refine sr (jb (bG rfl) ?_);refine nt (am (ci h (fun h=>?_) (fun h=>?_)))
    ·refine sk (am (ak (sr (mq ?_))));refine aq (nt ?_);refine cS ?_;refine dm ?_;refine dm ?_;obtain⟨M,y,h⟩:=aa h;refine db (ce (t:=(.arr 5 (.int .i64))) rfl AP gB y) ?_;refine da (aN rfl eX) ?_;refine ea 0 (aD rfl bT pX rfl) ?_;obtain⟨gq,l,h⟩:=aa h;refine db (uK (t:=(.int .i64)) rfl zf bT (ao l).1 (ao l).2) ?_;obtain⟨s,E,h⟩:=aa h;refine da (Cj (ax [.tmp 37] rfl rfl Q7 rfl (rj k (List.take (Int.toNat a0.1) M) s E))) ?_;refine da (bf (t:=(.slice (.int .i64))) [(.tmp 38,_)] [s] rfl rfl oQ (.cons rfl .rep .nil) rfl rfl) ?_;refine df eF ?_;obtain⟨Y,D,h⟩:=aa h;refine fr 1 ?_;refine dN rfl rfl rfl (cx rfl rfl oQ (ao D)) ⟨rfl,rfl,trivial⟩ fun O=>?_;refine aq (aE (aS (tn (ag ?_))));obtain⟨J,u,h⟩:=aa h;refine jb (bB rfl u) ?_;refine mq (nl ?_);exact jz (O,(c.1++[s],J)) h [1,0,2]
    ·refine xa ?_;exact jz (e,c.1) h [1,2]
   ·refine sr (mq ?_);refine aq ?_;refine cq (nt (aC ?_));refine b8 (iV [4,9,42] ⟨rfl,rfl,rfl,trivial⟩) ?_;cases h;exact rb
def fA(k:Nat)(a2:Int)(r1:(List (List Int)))(x5:Int):Nat→Int→Option (Except Int Unit)
 |0,_=>none
 |n+1,y6=>
  if y6 < x5 then((aX r1 y6).bind fun x8=>
  (aX x8 a2).bind fun x9=>
  if 0≤x9 then(some (.error y6)) else((ck (y6+1)).bind fun c=>
  fA k a2 r1 x5 n c)) else(some (.ok ()))
def hP(k:Nat)(a0:ai)(a1:Int)(a2:Int):Option Int:=
 (lu k a0 a1).bind fun r1=>
 bE (α:=Unit) ((ck ((a0.2.2.2.2.1.length:Int)+1)).bind fun x5=>
 fA k a2 r1 x5 k 0) (some) fun _=>
 some (-1:Int)
theorem kS(k:Nat)(a0:ai)(c z_a0:Nat)(a1:Int)(a2:Int)(r:Int)(h:hP k a0 a1 a2=some r):
 bX (dE Tryz.prog) 36 [Pt c,.eq (.int .u8 a1),I a2] [.obj c 109 (.pair (.rep ab a0) (.pair (.eq (.int .i32 0)) (.pair (.eq (.int .u32 0)) (.eq (.map (some z_a0)))))),.inv z_a0 (aI k a0)] (fun _:Unit=>(bI [I r],[.obj c 109 (.pair (.rep ab a0) (.pair (.eq (.int .i32 0)) (.pair (.eq (.int .u32 0)) (.eq (.map (some z_a0)))))),.inv z_a0 (aI k a0)])):=by
 unfold hP at h
 replace h:=bo h
 refine bX.of 30 Tryz.func36 rfl Tryz.ntmps36 rfl fun S w0=>?_
 refine sr ?_
 refine cq ?_
 refine nt ?_
 refine sr ?_
 iterate 2 refine mq ?_
 obtain⟨r1,D,h⟩:=aa h
 have E:=eI k a0 c z_a0 a1 r1 D
 refine fr 1 ?_
 refine fr 1 ?_
 refine ay (Δ:=[_,_]) (F:=_) (fun _ _ _=>ae rfl _) rfl rfl (aK [.tmp 9,.tmp 10] rfl rfl nX rfl E) ⟨rfl,rfl,trivial⟩ fun _=>?_
 refine aZ rfl rfl rfl (bu rfl Ej Hj) trivial fun b2=>?_
 refine aU rfl rfl (aR rfl EW rfl rfl rfl) ⟨rfl,rfl,trivial⟩ ?_
 refine dX (jr (t:=(.arr 7 (.arr 5 (.int .i64)))) (x:=r1) [7] .rep ⟨rfl,trivial⟩) ?_
 refine nt ?_
 refine dx (Z:=Unit) (α:=Unit) (fun z4 x3=>[]) (fun z4 x3=>[.obj c 109 (.pair (.rep ab a0) (.pair (.eq (.int .i32 0)) (.pair (.eq (.int .u32 0)) (.eq (.map (some z_a0)))))),.inv z_a0 (aI k a0)]) (fun e=>e=r) h (fun e h=>Option.some.inj h) (fun K hR h=>?_) (fun z4 x3 h=>?_)
 ·
  refine sr (mq ?_);refine ja (cG rfl) ?_;refine fl gy ?_;refine fl eL ?_;refine lo lN ?_;refine ol AQ ?_;obtain⟨x5,y,h⟩:=aa h;refine jb (bB rfl y) ?_;refine dT rfl ?_;refine nt (ak (aH (fun z7 y6=>[(2,I a2),(7,.at (.arr 7 (.arr 5 (.int .i64))) r1),(18,I x5),(19,I y6)]) (fun z7 y6=>[.obj c 109 (.pair (.rep ab a0) (.pair (.eq (.int .i32 0)) (.pair (.eq (.int .u32 0)) (.eq (.map (some z_a0)))))),.inv z_a0 (aI k a0)]) (fA k a2 r1 x5) k () 0 (fun _=>rfl) h (SE.fin [0,1] ⟨rfl,rfl,rfl,rfl,trivial⟩ rfl) (fun n z7 y6 h=>?_)));unfold fA at h;refine sr (jb (bG rfl) ?_);refine nt (am (ci h (fun h=>?_) (fun h=>?_)))
  ·refine sk (am (ak (sr (mq ?_))));refine aq (nt (sr ?_));iterate 2 refine mq ?_
   obtain⟨x8,u,h⟩:=aa h;refine jb (ce (t:=(.arr 5 (.int .i64))) rfl AP gB u) ?_;obtain⟨x9,s,h⟩:=aa h;refine jb (ce (t:=(.int .i64)) rfl zf bT s) ?_;refine ja (av (t:=(.int .i64)) rfl bT rfl) ?_;refine jb (i9 rfl) ?_;refine nt (ci h (fun h=>?_) (fun h=>?_))
   ·refine sr (mq ?_);refine aq (nt (aC (br (bH (bF ?_)))));obtain rfl:=hR _ h;exact aM () [_] 2 ⟨rfl,trivial⟩ rfl
   ·refine bh (aS (tn (ag ?_)));obtain⟨l,j,h⟩:=aa h;refine jb (bB rfl j) ?_;refine mq (nl ?_);exact jz ((),l) h [0,1]
  ·refine xa ?_;exact jz ((),()) h [0,1]
 ·
  refine sr (cq (nt (aC ?_)));cases h;exact aM () [_] 2 ⟨rfl,trivial⟩ rfl
def fO(k:Nat)(r2:(List (List Int)))(y6:Int×Int×(List (dY×dY))):Nat→Int→Option Int
 |0,_=>none
 |n+1,c=>
  ((if 0 < c then((ck (c - 1)).bind fun l=>
  (aX r2 l).bind fun j=>
  (aX j y6.1).bind fun h=>
  some (decide (0≤h))) else(some false)):Option (Bool)).bind fun r=>
  if r=true then((ck (c - 1)).bind fun e=>
  fO k r2 y6 n e) else(some c)
def fP(k:Nat)(a0:ai)(r2:(List (List Int))):Nat→(Int×Int×(List (dY×dY)))→Option (List (eZ×eZ))
 |0,_=>none
 |n+1,y6=>
  bE (α:=Int×Int×(List (dY×dY))) (((fO k r2 y6 k y6.2.1):Option (Int)).bind fun c=>
  if c=0 then((cJ (xU (y6.1,y6.2.1))).bind fun _=>
  some (.error (Ak y6.2.2 (y6.1,y6.2.1) ((-1:Int),0)))) else((ck (c - 1)).bind fun r=>
  (aX r2 r).bind fun l=>
  (ck (c - 1)).bind fun j=>
  (dc k a0 l y6.1 j).bind fun h=>
  (ck (c - 1)).bind fun e=>
  (cJ (xU (y6.1,y6.2.1))).bind fun _=>
  some (.ok (h,e,Ak y6.2.2 (y6.1,y6.2.1) (h,e))))) (some) fun x8=>
  fP k a0 r2 n (x8.1,x8.2.1,x8.2.2)
def kU(k:Nat)(a0:ai)(a1:Int)(a2:eZ):Option (List (eZ×eZ)):=
 (lu k a0 a1).bind fun r2=>
 fP k a0 r2 k (a2.1,a2.2,([]:List (dY×dY)))
theorem qG(k:Nat)(a0:ai)(c z_a0:Nat)(a1:Int)(a2:eZ)(r:(List (eZ×eZ)))(h:kU k a0 a1 a2=some r):
 bX (dE Tryz.prog) 37 [Pt c,.eq (.int .u8 a1),.rep bq a2] [.obj c 109 (.pair (.rep ab a0) (.pair (.eq (.int .i32 0)) (.pair (.eq (.int .u32 0)) (.eq (.map (some z_a0)))))),.inv z_a0 (aI k a0)] (fun z:Nat=>(bI [.eq (.map (some z))],[.inv z (sH r),.obj c 109 (.pair (.rep ab a0) (.pair (.eq (.int .i32 0)) (.pair (.eq (.int .u32 0)) (.eq (.map (some z_a0)))))),.inv z_a0 (aI k a0)])):=by
 unfold kU at h
 replace h:=bo h
 refine bX.of 56 Tryz.func37 rfl Tryz.ntmps37 rfl fun S w0=>?_
 refine sr ?_
 refine bx fun b1=>?_
 refine cq ?_
 refine nt ?_
 refine sr ?_
 iterate 2 refine mq ?_
 obtain⟨r2,Ta,h⟩:=aa h
 have Td:=eI k a0 c z_a0 a1 r2 Ta
 refine fr 2 ?_
 refine fr 2 ?_
 refine ay (Δ:=[_,_]) (F:=_) (fun _ _ _=>ae rfl _) rfl rfl (aK [.tmp 12,.tmp 13] rfl rfl nX rfl Td) ⟨rfl,rfl,trivial⟩ fun _=>?_
 refine aZ rfl rfl rfl (bu rfl Ej Hj) trivial fun b3=>?_
 refine aU rfl rfl (aR rfl EW rfl rfl rfl) ⟨rfl,rfl,trivial⟩ ?_
 refine dX (jr (t:=(.arr 7 (.arr 5 (.int .i64)))) (x:=r2) [7] .rep ⟨rfl,trivial⟩) ?_
 refine nt ?_
 refine sr ?_
 refine aZ rfl rfl rfl (vo rfl) trivial fun z4=>?_
 refine dX (sb (sH []) Il) ?_
 refine aq ?_
 refine nt ?_
 refine sr ?_
 refine aZ rfl rfl rfl (bu rfl xB Hi) trivial fun b5=>?_
 refine nt ?_
 refine sr ?_
 refine fl Aw ?_
 refine aU rfl rfl (aR rfl bT rfl rfl rfl) ⟨rfl,rfl,trivial⟩ ?_
 refine nt ?_
 refine ak ?_
 refine cK 4 rfl ?_
 refine gX (ic (a:=.rep bq a2) (a':=.agg (.pair (I a2.1) (I a2.2))) (AE.trans CQ (AE.agg (AE.trans zp (AE.pair AE.int AE.int))))) ?_
 refine aH (fun z7 y6=>[(0,Pt c),(5,Pt b1),(7,.at (.arr 7 (.arr 5 (.int .i64))) r2),(8,.eq (.map (some z4))),(9,Pt b5)]) (fun z7 y6=>[.obj c 109 (.pair (.rep ab a0) (.pair (.eq (.int .i32 0)) (.pair (.eq (.int .u32 0)) (.eq (.map (some z_a0)))))),.obj b1 82 (.agg (.pair (I y6.1) (I y6.2.1))),.obj b5 82 (.agg (.pair (I (-1:Int)) (I 0))),.inv z_a0 (aI k a0),.inv z4 (sH y6.2.2)]) (fP k a0 r2) k () (a2.1,a2.2,([]:List (dY×dY))) (fun _=>rfl) h (SE.fin [3,0,1,4,2] ⟨rfl,rfl,rfl,rfl,rfl,trivial⟩ rfl) (fun n z7 y6 h=>?_)
 unfold fP at h
 refine HK (Z:=Unit) (α:=Int×Int×(List (dY×dY))) (fun z9 x8=>[(0,Pt c),(5,Pt b1),(7,.at (.arr 7 (.arr 5 (.int .i64))) r2),(8,.eq (.map (some z4))),(9,Pt b5)]) (fun z9 x8=>[.obj c 109 (.pair (.rep ab a0) (.pair (.eq (.int .i32 0)) (.pair (.eq (.int .u32 0)) (.eq (.map (some z_a0)))))),.obj b1 82 (.agg (.pair (I x8.1) (I x8.2.1))),.obj b5 82 (.agg (.pair (I (-1:Int)) (I 0))),.inv z_a0 (aI k a0),.inv z4 (sH x8.2.2)]) (fun e=>e=r) h (fun e h=>Option.some.inj h) (fun K hR h=>?_) (fun z9 x8 h=>?_)
 ·
  refine ak (sr (fl MS ?_));refine fr 1 ?_;refine lo bT ?_;refine aq (nt ?_);refine aJ (Z:=Unit) (α:=Int) (fun O D=>[(0,Pt c),(5,Pt b1),(7,.at (.arr 7 (.arr 5 (.int .i64))) r2),(8,.eq (.map (some z4))),(9,Pt b5),(10,I D)]) (fun O D=>[.obj c 109 (.pair (.rep ab a0) (.pair (.eq (.int .i32 0)) (.pair (.eq (.int .u32 0)) (.eq (.map (some z_a0)))))),.obj b1 82 (.agg (.pair (I y6.1) (I y6.2.1))),.obj b5 82 (.agg (.pair (I (-1:Int)) (I 0))),.inv z_a0 (aI k a0),.inv z4 (sH y6.2.2)]) h (fun K h=>?_) (fun O D h=>?_)
  ·refine ak (aH (fun M s=>[(0,Pt c),(5,Pt b1),(7,.at (.arr 7 (.arr 5 (.int .i64))) r2),(8,.eq (.map (some z4))),(9,Pt b5),(10,I s)]) (fun M s=>[.obj c 109 (.pair (.rep ab a0) (.pair (.eq (.int .i32 0)) (.pair (.eq (.int .u32 0)) (.eq (.map (some z_a0)))))),.obj b1 82 (.agg (.pair (I y6.1) (I y6.2.1))),.obj b5 82 (.agg (.pair (I (-1:Int)) (I 0))),.inv z_a0 (aI k a0),.inv z4 (sH y6.2.2)]) (fO k r2 y6) k () y6.2.1 (fun _=>rfl) h (SE.fin [1,0,2,3,4] ⟨rfl,rfl,rfl,rfl,rfl,rfl,trivial⟩ rfl) (fun n M s h=>?_));unfold fO at h;refine am (aJ (Z:=Unit) (α:=Bool) (fun J y=>[(0,Pt c),(5,Pt b1),(7,.at (.arr 7 (.arr 5 (.int .i64))) r2),(8,.eq (.map (some z4))),(9,Pt b5),(10,I s),(30,.eq (.bool y))]) (fun J y=>[.obj c 109 (.pair (.rep ab a0) (.pair (.eq (.int .i32 0)) (.pair (.eq (.int .u32 0)) (.eq (.map (some z_a0)))))),.obj b1 82 (.agg (.pair (I y6.1) (I y6.2.1))),.obj b5 82 (.agg (.pair (I (-1:Int)) (I 0))),.inv z_a0 (aI k a0),.inv z4 (sH y6.2.2)]) h (fun K h=>?_) (fun J y h=>?_))
   ·refine cS ?_;refine dm ?_;refine db (oZ rfl) ?_;refine xu rfl rfl rfl (bM rfl) ⟨rfl,trivial⟩ (fun hb=>?_) (fun hb=>?_)
    ·replace h:=eO (uU hb) h;refine dH rfl rfl rfl rfl rfl (bM rfl) ⟨rfl,rfl,trivial⟩ ?_;obtain⟨Tu,SI,h⟩:=aa h;refine dH rfl rfl rfl rfl rfl (ek rfl SI) ⟨rfl,rfl,rfl,trivial⟩ ?_;refine dH rfl rfl rfl rfl rfl (aN rfl Aw) ⟨rfl,rfl,trivial⟩ ?_;refine kx 1 rfl rfl rfl rfl rfl rfl (aD rfl bT pX rfl) ⟨rfl,rfl,trivial⟩ ?_;obtain⟨Tt,SH,h⟩:=aa h;refine dH rfl rfl rfl rfl rfl (ce (t:=(.arr 5 (.int .i64))) rfl AP gB SH) ⟨rfl,rfl,rfl,trivial⟩ ?_;refine df eF ?_;obtain⟨SR,SG,h⟩:=aa h;refine gb (ce (t:=(.int .i64)) rfl zf bT SG) ?_;refine ga (av (t:=(.int .i64)) rfl bT rfl) ?_;refine gb (i9 rfl) ?_;refine pt (nl ?_);exact jz ((),decide (0≤SR)) h [0,1,2,3,4]
    ·replace h:=cV (uV hb) h;iterate 5 refine dg ?_
     refine df eF ?_;iterate 3 refine gn ?_
     refine pf (nl ?_);exact jz ((),false) h [0,1,2,3,4]
   ·refine cv h (fun h=>?_) (fun h=>?_)
    ·refine sk (ak (ag (mq ?_)));obtain⟨SQ,zz,h⟩:=aa h;refine jb (ek rfl zz) ?_;refine aq (aE (bn ?_));exact jz ((),SQ) h [0,1,2,3,4]
    ·refine xa ?_;exact jz ((),s) h [0,1,2,3,4]
  ·refine am (sr (mq ?_));refine jb (jd rfl) ?_;refine nt (ci h (fun h=>?_) (fun h=>?_))
   ·refine sr (mq ?_);refine fr 1 ?_;refine lo nA ?_;refine fr 2 ?_;refine lo nA ?_;refine dX (d4 (t:=bq) (x:=(y6.1,y6.2.1)) 36 rfl (.agg (.pair .int .int)) trivial rfl) ?_;obtain⟨TP,SK,h⟩:=aa h;refine dX (d4 (t:=bq) (x:=((-1:Int),0)) 37 rfl (.agg (.pair .int .int)) trivial rfl) ?_;refine fr 4 ?_;refine aU rfl rfl (qw (K:=kH) (V:=kH) (t:=(y6.1,y6.2.1)) (n:=((-1:Int),0)) (l:=y6.2.2) (fun _ _ _ h=>mt h) rfl NX lW (fun _ _ _ h=>mt h) (qh (ao SK)) (qg _) qi) ⟨rfl,rfl,rfl,trivial⟩ ?_;refine nt (sr (mq ?_));refine aq (nt (rx (br (bH ?_))));refine b8 (SE.fin (Γ':=[(6,_)]) [0,3,4,1,2] ⟨rfl,trivial⟩ rfl) ?_;obtain rfl:=hR _ h;exact aM z4 [.eq (.map (some z4))] 3 ⟨rfl,trivial⟩ rfl
   ·refine sk (am (qV ?_));refine cy rfl rfl rfl (bM rfl) ⟨rfl,trivial⟩ ?_;refine cy rfl rfl rfl (bM rfl) ⟨rfl,trivial⟩ ?_;obtain⟨To,qt,h⟩:=aa h;refine cy rfl rfl rfl (ek rfl qt) ⟨rfl,rfl,trivial⟩ ?_;obtain⟨SO,mw,h⟩:=aa h;refine cy rfl rfl rfl (ce (t:=(.arr 5 (.int .i64))) rfl AP gB mw) ⟨rfl,rfl,trivial⟩ ?_;refine cy rfl rfl rfl (av (t:=(.arr 5 (.int .i64))) rfl gB rfl) ⟨rfl,trivial⟩ ?_;refine cy rfl rfl rfl (aN rfl Aw) ⟨rfl,trivial⟩ ?_;refine iY 1 rfl rfl rfl rfl (aD rfl bT pX rfl) ⟨rfl,trivial⟩ ?_;refine cy rfl rfl rfl (bM rfl) ⟨rfl,trivial⟩ ?_;obtain⟨SN,mc,h⟩:=aa h;refine cy rfl rfl rfl (ek rfl mc) ⟨rfl,rfl,trivial⟩ ?_;obtain⟨j,SL,h⟩:=aa h;refine iY 0 rfl rfl rfl rfl (ax [.tmp 39,.tmp 43,.tmp 45,.tmp 47] rfl rfl O4 rfl (nk k a0 c z_a0 SO y6.1 SN j SL)) ⟨rfl,rfl,rfl,rfl,trivial⟩ ?_;refine cy rfl rfl rfl (bM rfl) ⟨rfl,trivial⟩ ?_;obtain⟨u,gw,h⟩:=aa h;refine cy rfl rfl rfl (ek rfl gw) ⟨rfl,rfl,trivial⟩ ?_;refine cy rfl rfl rfl (dC [(0,.tmp 48,_),(1,.tmp 50,_)] rfl LY xB Hf (i8 ⟨rfl,rfl,trivial⟩) rfl) ⟨rfl,rfl,trivial⟩ ?_;refine KB (LW 82 (.agg (.pair (I 0) (I 0)))) (fun _=>rfl) rfl rfl rfl (bu rfl xB Hi) trivial ?_;refine xt 14 [true,true,true,true,true,true,true,true,true,true,true,true,true,true] [] [] [] rfl (by kernel_rfl) (by kernel_rfl) (by kernel_rfl) eF (fun vs hv hB=>?_);obtain⟨w0,TN,rfl,S9⟩:=aG hv;obtain⟨w1,TM,rfl,S7⟩:=aG S9;obtain⟨w2,TL,rfl,S5⟩:=aG S7;obtain⟨w3,TK,rfl,SZ⟩:=aG S5;obtain⟨w4,TJ,rfl,SY⟩:=aG SZ;obtain⟨w5,TG,rfl,SX⟩:=aG SY;obtain⟨w6,TF,rfl,SV⟩:=aG SX;obtain⟨w7,TD,rfl,SU⟩:=aG SV;obtain⟨w8,TC,rfl,SS⟩:=aG SU;obtain⟨w9,Tn,rfl,gq⟩:=aG SS;obtain⟨TB,Tm,rfl,Y⟩:=aG gq;obtain⟨TA,Tj,rfl,X⟩:=aG Y;obtain⟨Tz,Ti,rfl,U⟩:=aG X;obtain⟨Tv,Tf,rfl,Q⟩:=aG U;obtain rfl:=s5 Q;obtain⟨E,rfl⟩:=LV hB.2.2.2.2.2.2.2.2.2.2.2.2.2.1;refine⟨[0,1,2,3,4,5],[.obj c 109 (.pair (.rep ab a0) (.pair (.eq (.int .i32 0)) (.pair (.eq (.int .u32 0)) (.eq (.map (some z_a0)))))),.obj b1 82 (.agg (.pair (I y6.1) (I y6.2.1))),.obj b5 82 (.agg (.pair (I (-1:Int)) (I 0))),.inv z_a0 (aI k a0),.inv z4 (sH y6.2.2),.obj E 82 (.agg (.pair (I 0) (I 0)))],by kernel_rfl,by decide,?_⟩;refine uu 5 rfl ?_;refine sc rfl rfl (aR rfl nA trivial rfl rfl) ⟨rfl,rfl,trivial⟩ (by kernel_rfl) ?_;refine xn ?_;refine b8 (SE.fin (Γ':=[(0,Pt c),(5,Pt b1),(7,.at (.arr 7 (.arr 5 (.int .i64))) r2),(8,.eq (.map (some z4))),(9,Pt b5),(11,Pt E)]) (Δ':=[.obj E 82 (.agg (.pair (I j) (I u))),.obj c 109 (.pair (.rep ab a0) (.pair (.eq (.int .i32 0)) (.pair (.eq (.int .u32 0)) (.eq (.map (some z_a0)))))),.obj b1 82 (.agg (.pair (I y6.1) (I y6.2.1))),.obj b5 82 (.agg (.pair (I (-1:Int)) (I 0))),.inv z_a0 (aI k a0),.inv z4 (sH y6.2.2)]) [0,1,2,3,4,5] ⟨rfl,rfl,rfl,rfl,rfl,rfl,trivial⟩ rfl) ?_;refine tn (sr (mq ?_));refine fr 2 ?_;refine lo nA ?_;refine fr 1 ?_;refine lo nA ?_;refine dX (d4 (t:=bq) (x:=(y6.1,y6.2.1)) 53 rfl (.agg (.pair .int .int)) trivial rfl) ?_;obtain⟨TO,SJ,h⟩:=aa h
    refine dX (d4 (t:=bq) (x:=(j,u)) 54 rfl (.agg (.pair .int .int)) trivial rfl) ?_;refine fr 5 ?_;refine aU rfl rfl (qw (K:=kH) (V:=kH) (t:=(y6.1,y6.2.1)) (n:=(j,u)) (l:=y6.2.2) (fun _ _ _ h=>mt h) rfl NX lW (fun _ _ _ h=>mt h) (qh (ao SJ)) (qg _) qi) ⟨rfl,rfl,rfl,trivial⟩ ?_;refine nt (ag (fr 1 ?_));refine lo nA ?_;refine fr 2 ?_;refine aU rfl rfl (aR rfl nA trivial rfl rfl) ⟨rfl,rfl,trivial⟩ ?_;refine aE (bn ?_);exact jz ((),(j,u,Ak y6.2.2 (y6.1,y6.2.1) (j,u))) h [3,0,4,5,2]
 ·
  refine ap ?_;exact jz ((),(x8.1,x8.2.1,x8.2.2)) h [0,1,2,3,4]
def ko(k:Nat)(r7:(List (eZ×eZ))):Nat→(Int×Int×(List Int))→Option (List Int)
 |0,_=>none
 |n+1,c=>
  (cJ (xU (c.1,c.2.1))).bind fun _=>
  if¬((mO r7 (c.1,c.2.1) (0,0))=((-1:Int),0)) then((cJ (xU (c.1,c.2.1))).bind fun _=>
  (cJ (cu (List.length c.2.2+List.length [(mO r7 (c.1,c.2.1) (0,0)).1]))).bind fun _=>
  (cJ (xU (c.1,c.2.1))).bind fun _=>
  ko k r7 n ((mO r7 (c.1,c.2.1) (0,0)).1,(mO r7 (c.1,c.2.1) (0,0)).2,c.2.2++[(mO r7 (c.1,c.2.1) (0,0)).1])) else(some c.2.2)
def rL(k:Nat)(a0:ai)(a1:(List Int))(a2:Int):Option ((List Int)×Int):=
 (jG k a0 a1 [a2] ([]:(List Int)) ([]:(List Int))).bind fun r2=>
 fa r2.1 (if¬(r2.2.2=0) then(some (([]:(List Int)),r2.2.2)) else(none)) (fun q3=>if¬(r2.2.2=0) then(some (([]:(List Int)),r2.2.2)) else((hP k q3 r2.2.1 a2).bind fun r5=>
 if r5 < 0 then(some (([]:(List Int)),11)) else((kU k q3 r2.2.1 (a2,r5)).bind fun r7=>
 ((ko k r7 k (a2,r5,[a2])):Option ((List Int))).bind fun c=>
 (jV k c).bind fun e=>
 some (e,0))))
theorem wL(k:Nat)(a0:ai)(a1:(List Int))(a2:Int)(r:(List Int)×Int)(h:rL k a0 a1 a2=some r):
 bX (dE Tryz.prog) 14 [.rep ab a0,Ri a1,I a2] [] (fun _:Unit=>(bI [Ri r.1,I r.2],[])):=by
 unfold rL at h
 replace h:=bo h
 refine bX.of 64 Tryz.func14 rfl Tryz.ntmps14 rfl fun S w0=>?_
 refine sr ?_
 refine bx fun b1=>?_
 refine cq ?_
 refine cq ?_
 refine nt ?_
 refine sr ?_
 refine lo iZ ?_
 iterate 2 refine mq ?_
 refine ja (bf (t:=(.int .i64)) [(.tmp 19,_)] [a2] rfl rfl dn (.cons rfl .int .nil) rfl rfl) ?_
 obtain⟨r2,Y,h⟩:=aa h
 have u:=lC k a0 a1 [a2] ([]:(List Int)) ([]:(List Int)) r2 Y
 rcases hr:r2.1 with _ |q3
 ·
  rw [hr] at h u;replace h:=ua h;refine ay (Δ:=[]) (F:=_) (fun _ _ _=>ae rfl _) rfl rfl (bv (N:=[(.tmp 17,.rep ab a0),(.tmp 18,Ri a1),(.tmp 20,Ri [a2]),(.const (.slice none 0 0),.eq (.slice none 0 0)),(.const (.slice none 0 0),.eq (.slice none 0 0))]) (aK [.tmp 17,.tmp 18,.tmp 20,.const (.slice none 0 0),.const (.slice none 0 0)] rfl rfl yL rfl u) fun _ _ _ hn=>⟨hn.1,hn.2.1,hn.2.2.1,(aA (t:=(.slice (.int .i64))) (x:=([]:(List Int))) .nil rfl rfl hn.2.2.2.1),(aA (t:=(.slice (.int .i64))) (x:=([]:(List Int))) .nil rfl rfl hn.2.2.2.2.1),trivial⟩) ⟨rfl,rfl,rfl,rfl,rfl,trivial⟩ fun _=>?_;refine mq ?_;refine xr ?_;refine xr ?_;refine xr ?_;refine aq ?_;refine aq ?_;refine aq (nt (am (sr ?_)));refine mq ?_;refine jb (eR rfl) ?_;refine nt (cn h (fun h=>?_) (fun h=>?_))
  ·refine sr (mq ?_);refine cq ?_;refine aq (nt (rx ?_));refine b8 (d4 (t:=(.slice (.int .i64))) (x:=([]:(List Int))) 6 rfl .nil rfl rfl) ?_;cases h;exact rb
  ·cases h
 ·
  rw [hr] at h u;replace h:=t9 h;refine ay (Δ:=[]) (F:=_) (fun _ _ _=>ae rfl _) rfl rfl (bv (N:=[(.tmp 17,.rep ab a0),(.tmp 18,Ri a1),(.tmp 20,Ri [a2]),(.const (.slice none 0 0),.eq (.slice none 0 0)),(.const (.slice none 0 0),.eq (.slice none 0 0))]) (aK [.tmp 17,.tmp 18,.tmp 20,.const (.slice none 0 0),.const (.slice none 0 0)] rfl rfl yL rfl u) fun _ _ _ hn=>⟨hn.1,hn.2.1,hn.2.2.1,(aA (t:=(.slice (.int .i64))) (x:=([]:(List Int))) .nil rfl rfl hn.2.2.2.1),(aA (t:=(.slice (.int .i64))) (x:=([]:(List Int))) .nil rfl rfl hn.2.2.2.2.1),trivial⟩) ⟨rfl,rfl,rfl,rfl,rfl,trivial⟩ fun z4=>?_;refine mq ?_;refine xr ?_;refine xr ?_;refine xr ?_;refine aq ?_;refine aq ?_;refine aq (nt (am (sr ?_)));refine mq ?_;refine jb (eR rfl) ?_;refine nt (cn h (fun h=>?_) (fun h=>?_))
  ·refine sr (mq ?_);refine cq ?_;refine aq (nt (rx ?_));refine b8 (d4 (t:=(.slice (.int .i64))) (x:=([]:(List Int))) 6 rfl .nil rfl rfl) ?_;cases h;exact rb
  ·refine sk (sr ?_);iterate 3 refine mq ?_
   obtain⟨r5,X,h⟩:=aa h;refine fr 1 ?_;refine fr 1 ?_;refine ay (Δ:=[_,_]) (F:=_) (fun _ _ _=>ae rfl _) rfl rfl (aK [.tmp 28,.tmp 29,.tmp 30] rfl rfl Pe rfl (kS k q3 z4.1 z4.2 r2.2.1 a2 r5 X)) ⟨rfl,rfl,rfl,trivial⟩ fun _=>?_;refine aq (nt (am (sr ?_)));refine mq ?_;refine jb (bG rfl) ?_;refine nt (ci h (fun h=>?_) (fun h=>?_))
   ·refine sr (cq ?_);refine cq (nt (rx ?_));refine b8 (d4 (t:=(.slice (.int .i64))) (x:=([]:(List Int))) 6 rfl .nil rfl rfl) ?_;cases h;exact rb
   ·refine sk (sr ?_);iterate 2 refine mq ?_
    refine jb (dC [(0,.tmp 34,_),(1,.tmp 35,_)] rfl LY xB Hf (i8 ⟨rfl,rfl,trivial⟩) rfl) ?_;refine aZ rfl rfl rfl (bu rfl xB Hi) trivial fun b6=>?_;refine aU rfl rfl (aR rfl nA trivial rfl rfl) ⟨rfl,rfl,trivial⟩ ?_;refine nt (sr ?_);iterate 2 refine mq ?_
    refine lo nA ?_;obtain⟨r7,U,h⟩:=aa h;refine fr 2 ?_;refine fr 2 ?_;refine ay (Δ:=[_,_]) (F:=_) (fun _ _ _=>ae rfl _) rfl rfl (bv (N:=[(.tmp 37,.eq (.pointer (some ⟨z4.1,0,none⟩))),(.tmp 38,.eq (.int .u8 r2.2.1)),(.tmp 39,.agg (.pair (I a2) (I r5)))]) (aK [.tmp 37,.tmp 38,.tmp 39] rfl rfl Q4 rfl (qG k q3 z4.1 z4.2 r2.2.1 (a2,r5) r7 U)) fun _ _ _ hn=>⟨hn.1,hn.2.1,(aA (t:=bq) (x:=(a2,r5)) (.agg (.pair .int .int)) trivial rfl hn.2.2.1),trivial⟩) ⟨rfl,rfl,rfl,trivial⟩ fun z8=>?_;refine aq (nt (sr ?_));refine mq ?_;refine aZ rfl rfl rfl (mA (t:=(.int .i64)) [(.tmp 41,_)] [a2] rfl rfl dn (.cons rfl .int .nil) rfl rfl) ⟨rfl,trivial⟩ fun v9=>?_;refine aq (nt ?_);refine aJ (Z:=Value) (α:=(List Int)) (fun j s=>[(13,.eq (.map (some z8))),(14,.eq j)]) (fun j s=>[.sl j 3 (.int .i64) s,.inv z4.2 (aI k q3),.inv z8 (sH r7)]) h (fun K h=>?_) (fun j s h=>?_)
    ·refine sr (ja (dC [(0,.const (.int .i64 (-1)),_)] rfl LY xB Hf (i8 ⟨rfl,trivial⟩) rfl) ?_);refine aZ rfl rfl rfl (bu rfl xB Hi) trivial fun gw=>?_;refine aU rfl rfl (aR rfl nA trivial rfl rfl) ⟨rfl,rfl,trivial⟩ ?_;refine nt (ak (aH (fun e c=>[(12,Pt b6),(13,.eq (.map (some z8))),(14,.eq e.1),(15,.eq (.pointer (some ⟨e.2,0,none⟩)))]) (fun e c=>[.obj b6 82 (.agg (.pair (I c.1) (I c.2.1))),.sl e.1 3 (.int .i64) c.2.2,.obj e.2 82 (.agg (.pair (I (-1:Int)) (I 0))),.inv z4.2 (aI k q3),.inv z8 (sH r7)]) (ko k r7) k (v9,gw) (a2,r5,[a2]) (fun _=>rfl) h (SE.fin [5,1,0,4,2] ⟨rfl,rfl,rfl,rfl,trivial⟩ rfl) (fun n e c h=>?_)));unfold ko at h;refine am (am (cS ?_));refine dm ?_;refine ea 0 (aD rfl nA (qD) rfl) ?_;obtain⟨qt,J,h⟩:=aa h;refine eb 4 (bv (N:=[(.tmp 44,.eq (.map (some z8))),(.tmp 45,.agg (.pair (I c.1) (I c.2.1)))]) (rz (K:=kH) (V:=kH) (t:=(c.1,c.2.1)) (l:=r7) (fun n=>.rep bq n) ti rfl NX (0,0) tg lW (fun _ _ _ h=>mt h) (qh (ao J)) (qg _) qi) fun _ _ _ hn=>⟨hn.1,(aA (t:=bq) (x:=(c.1,c.2.1)) (.agg (.pair .int .int)) trivial rfl hn.2.1),trivial⟩) ?_;refine ea 2 (aD rfl nA (qD) rfl) ?_;refine df eF ?_;refine dX (d4 (t:=bq) (x:=((-1:Int),0)) 47 rfl (.agg (.pair .int .int)) trivial rfl) ?_;refine jb (L2 rfl QM rfl) ?_;refine nt (cn h (fun h=>?_) (fun h=>?_))
     ·refine sk (am (ak (ag ?_)));iterate 2 refine mq ?_
      refine lo nA ?_;refine dX (d4 (t:=bq) (x:=(c.1,c.2.1)) 54 rfl (.agg (.pair .int .int)) trivial rfl) ?_;obtain⟨u16,E,h⟩:=aa h;refine fr 4 ?_;refine kb (bv (N:=[(.tmp 53,.eq (.map (some z8))),(.tmp 54,.rep bq (c.1,c.2.1))]) (rz (K:=kH) (V:=kH) (t:=(c.1,c.2.1)) (l:=r7) (fun n=>.rep bq n) ti rfl NX (0,0) tg lW (fun _ _ _ h=>mt h) (qh (ao E)) (qg _) qi) fun _ _ _ hn=>⟨hn.1,hn.2.1,trivial⟩) ?_;refine ja (IQ rfl Sz rfl bT (fun _=>rfl) rfl rfl rfl) ?_;refine ja (bf (t:=(.int .i64)) [(.tmp 56,_)] [(mO r7 (c.1,c.2.1) (0,0)).1] rfl rfl dn (.cons rfl .int .nil) rfl rfl) ?_;obtain⟨mw,D,h⟩:=aa h;refine fr 2 ?_;refine dN rfl rfl rfl (cx rfl rfl dn (ao D)) ⟨rfl,rfl,trivial⟩ fun O=>?_;refine aq (aE (aS (tn (am (sr ?_)))));refine fr 3 ?_;refine lo nA ?_;refine nt (ag (aZ rfl rfl rfl (bu rfl xB Hi) trivial fun gq=>?_));refine aU rfl rfl (aR rfl nA trivial rfl rfl) ⟨rfl,rfl,trivial⟩ ?_;refine nt (ag (mq ?_));refine fr 4 ?_;refine lo nA ?_;refine dX (d4 (t:=bq) (x:=(c.1,c.2.1)) 50 rfl (.agg (.pair .int .int)) trivial rfl) ?_;obtain⟨mc,y,h⟩:=aa h;refine fr 4 ?_;refine kb (bv (N:=[(.tmp 49,.eq (.map (some z8))),(.tmp 50,.rep bq (c.1,c.2.1))]) (rz (K:=kH) (V:=kH) (t:=(c.1,c.2.1)) (l:=r7) (fun n=>.rep bq n) ti rfl NX (0,0) tg lW (fun _ _ _ h=>mt h) (qh (ao y)) (qg _) qi) fun _ _ _ hn=>⟨hn.1,hn.2.1,trivial⟩) ?_;refine fr 1 ?_;refine aU rfl rfl (aR rfl nA rfl rfl rfl) ⟨rfl,rfl,trivial⟩ ?_;refine nl (b8 (ic (a:=.rep bq (mO r7 (c.1,c.2.1) (0,0))) (a':=.agg (.pair (I ((mO r7 (c.1,c.2.1) (0,0)).1)) (I ((mO r7 (c.1,c.2.1) (0,0)).2)))) (AE.trans CQ (AE.agg (AE.trans zp (AE.pair AE.int AE.int))))) ?_);exact jz ((O,gq),((mO r7 (c.1,c.2.1) (0,0)).1,(mO r7 (c.1,c.2.1) (0,0)).2,c.2.2++[(mO r7 (c.1,c.2.1) (0,0)).1])) h [0,4,2,5,1]
     ·refine xa ?_;exact jz (e.1,c.2.2) h [1,3,4]
    ·refine sr (mq ?_);refine fr 2 ?_;refine aU rfl rfl (FH rfl rfl NX) ⟨rfl,trivial⟩ ?_;refine nt (sr (mq ?_));obtain⟨Q,M,h⟩:=aa h;refine fr 1 ?_;refine ka (ax [.tmp 61] rfl rfl Q3 rfl (po k s j Q M)) ?_;refine nt (sr (mq ?_));refine aq ?_;refine cq (nt (aC ?_));refine b8 (iV [6,14,61,63] ⟨rfl,rfl,rfl,rfl,trivial⟩) ?_;cases h;exact rb
def eC(k:Nat)(a0:ai)(a2:Int)(r1:(List (List Int))):Nat→Int→Option Bool
 |0,_=>none
 |n+1,y3=>
  if y3 < (a0.2.2.2.2.2.length:Int) then((aX a0.2.2.2.2.2 y3).bind fun x5=>
  (((eu k a2 y3).bind fun r9=>
  if¬(r9=true) then((aX r1 x5.2.1).bind fun h=>
  (aX h x5.1).bind fun e=>
  some (!decide ((decide (a0.2.2.1≤e))=x5.2.2))) else(some false)):Option (Bool)).bind fun x7=>
  if x7=true then(some false) else((ck (y3+1)).bind fun c=>
  eC k a0 a2 r1 n c)) else(some true)
def iN(k:Nat)(a0:ai)(a1:Int)(a2:Int):Option Bool:=
 (lu k a0 a1).bind fun r1=>
 eC k a0 a2 r1 k 0
theorem nP(k:Nat)(a0:ai)(c z_a0:Nat)(a1:Int)(a2:Int)(r:Bool)(h:iN k a0 a1 a2=some r):
 AY (dE Tryz.prog) 83 [Pt c,.eq (.int .u8 a1),.eq (.int .u8 a2)] [.obj c 109 (.pair (.rep ab a0) (.pair (.eq (.int .i32 0)) (.pair (.eq (.int .u32 0)) (.eq (.map (some z_a0)))))),.inv z_a0 (aI k a0)] (.iface 147 (.agg #[])) r:=by
 unfold iN at h
 replace h:=bo h
 refine AY.of 48 Tryz.func83 rfl Tryz.ntmps83 rfl fun S w0=>?_
 refine sr ?_
 iterate 2 refine mq ?_
 obtain⟨r1,E,h⟩:=aa h
 have J:=eI k a0 c z_a0 a1 r1 E
 refine fr 1 ?_
 refine fr 1 ?_
 refine ay (Δ:=[_,_]) (F:=_) (fun _ _ _=>ae rfl _) rfl rfl (aK [.tmp 9,.tmp 10] rfl rfl nX rfl J) ⟨rfl,rfl,trivial⟩ fun _=>?_
 refine aZ rfl rfl rfl (bu rfl Ej Hj) trivial fun b2=>?_
 refine aU rfl rfl (aR rfl EW rfl rfl rfl) ⟨rfl,rfl,trivial⟩ ?_
 refine dX (jr (t:=(.arr 7 (.arr 5 (.int .i64)))) (x:=r1) [6] .rep ⟨rfl,trivial⟩) ?_
 refine nt ?_
 refine sr ?_
 refine mq ?_
 refine ja (cG rfl) ?_
 refine fl gy ?_
 refine fl Ax ?_
 refine lo LD ?_
 refine ol PL ?_
 refine dT rfl ?_
 refine nt ?_
 refine ak ?_
 refine aH (fun z4 y3=>[(0,Pt c),(2,.eq (.int .u8 a2)),(6,.at (.arr 7 (.arr 5 (.int .i64))) r1),(16,Rs bP a0.2.2.2.2.2),(17,I (a0.2.2.2.2.2.length:Int)),(18,I y3)]) (fun z4 y3=>[.obj c 109 (.pair (.rep ab a0) (.pair (.eq (.int .i32 0)) (.pair (.eq (.int .u32 0)) (.eq (.map (some z_a0)))))),.inv z_a0 (aI k a0)]) (eC k a0 a2 r1) k () 0 (fun _=>rfl) h (SE.fin [0,1] ⟨rfl,rfl,rfl,rfl,rfl,rfl,trivial⟩ rfl) (fun n z4 y3 h=>?_)
 unfold eC at h
 refine sr ?_
 refine jb (bG rfl) ?_
 refine nt ?_
 refine am ?_
 refine ci h (fun h=>?_) (fun h=>?_)
 ·
  refine sk (am (ak (sr (mq ?_))));obtain⟨x5,y,h⟩:=aa h;refine jb (be (t:=bP) rfl PL wj y) ?_;refine ja (av (t:=bP) rfl wj rfl) ?_;refine aZ rfl rfl rfl (bu rfl H5 Nv) trivial fun b6=>?_;refine aq ?_;refine aU rfl rfl (aR rfl wj rfl rfl rfl) ⟨rfl,rfl,trivial⟩ ?_;refine nt (aJ (Z:=Unit) (α:=Bool) (fun z8 x7=>[(0,Pt c),(2,.eq (.int .u8 a2)),(6,.at (.arr 7 (.arr 5 (.int .i64))) r1),(16,Rs bP a0.2.2.2.2.2),(17,I (a0.2.2.2.2.2.length:Int)),(18,I y3),(44,.eq (.bool x7))]) (fun z8 x7=>[.obj c 109 (.pair (.rep ab a0) (.pair (.eq (.int .i32 0)) (.pair (.eq (.int .u32 0)) (.eq (.map (some z_a0)))))),.inv z_a0 (aI k a0)]) h (fun K h=>?_) (fun z8 x7 h=>?_))
  ·refine cS ?_;refine dm ?_;refine dm ?_;obtain⟨r9,D,h⟩:=aa h;refine db (ax [.tmp 23,.tmp 24] rfl rfl GY rfl (f7 k a2 y3 r9 D)) ?_;refine da (gJ rfl) ?_;refine xu rfl rfl rfl (bM rfl) ⟨rfl,trivial⟩ (fun hb=>?_) (fun hb=>?_)
   ·replace h:=eO (wF hb) h;refine dH rfl rfl rfl rfl rfl (aN rfl GQ) ⟨rfl,rfl,trivial⟩ ?_;refine kx 0 rfl rfl rfl rfl rfl rfl (aD rfl bT pX rfl) ⟨rfl,rfl,trivial⟩ ?_;refine dH rfl rfl rfl rfl rfl (aN rfl GR) ⟨rfl,rfl,trivial⟩ ?_;refine kx 0 rfl rfl rfl rfl rfl rfl (aD rfl bT pX rfl) ⟨rfl,rfl,trivial⟩ ?_;obtain⟨M,l,h⟩:=aa h;refine dH rfl rfl rfl rfl rfl (ce (t:=(.arr 5 (.int .i64))) rfl AP gB l) ⟨rfl,rfl,rfl,trivial⟩ ?_;obtain⟨u,j,h⟩:=aa h;refine dH rfl rfl rfl rfl rfl (ce (t:=(.int .i64)) rfl zf bT j) ⟨rfl,rfl,rfl,trivial⟩ ?_;refine dH rfl rfl rfl rfl rfl (av (t:=(.int .i64)) rfl bT rfl) ⟨rfl,rfl,trivial⟩ ?_;refine dH rfl rfl rfl rfl rfl (bM rfl) ⟨rfl,rfl,trivial⟩ ?_;refine dH rfl rfl rfl rfl rfl (cG rfl) ⟨rfl,rfl,trivial⟩ ?_;refine dH rfl rfl rfl rfl rfl (aN rfl gy) ⟨rfl,rfl,trivial⟩ ?_;refine dH rfl rfl rfl rfl rfl (aN rfl dK) ⟨rfl,rfl,trivial⟩ ?_;refine kx 1 rfl rfl rfl rfl rfl rfl (aD rfl bT pX rfl) ⟨rfl,rfl,trivial⟩ ?_;refine dH rfl rfl rfl rfl rfl (i9 rfl) ⟨rfl,rfl,rfl,trivial⟩ ?_;refine dH rfl rfl rfl rfl rfl (aN rfl MU) ⟨rfl,rfl,trivial⟩ ?_;refine kx 0 rfl rfl rfl rfl rfl rfl (aD rfl RU pX rfl) ⟨rfl,rfl,trivial⟩ ?_;refine df eF ?_;refine gb (L6 rfl U4) ?_;refine pt (nl ?_);exact jz ((), !decide ((decide (a0.2.2.1≤u))=x5.2.2)) h [1,2]
   ·replace h:=cV (qz hb) h;iterate 15 refine dg ?_
    refine df eF ?_;refine gn ?_;refine pf (nl ?_);exact jz ((),false) h [1,2]
  ·refine cv h (fun h=>?_) (fun h=>?_)
   ·refine ag (bU rfl (FI rfl ND NZ) trivial ?_);refine ja (FD rfl ND) ?_;refine D7 rfl rfl rfl rfl ?_;refine zm ?_;refine sf ?_;refine sf ?_;refine zm ?_;refine b8 (SE.fin (Γ':=[]) [0,1] trivial rfl) ?_;cases h;exact Kw
   ·refine bh (aS (tn (ag ?_)));obtain⟨s,e,h⟩:=aa h;refine jb (bB rfl e) ?_;refine mq (nl ?_);exact jz ((),s) h [0,1]
 ·
  refine fU (bO (bO (de (jT ?_))));refine b8 (SE.fin (Γ':=[]) [0,1] trivial rfl) ?_;cases h;exact aM () [] 2 trivial rfl
def ij(k:Nat)(a0:ai)(a1:Int)(a2:Int):Option Bool:=iN k a0 a1 a2
theorem KR:NE Tryz.prog 147 (.agg #[]):=⟨⟨_,ND⟩,fun w=>by kernel_rfl⟩
theorem GZ:∀(S:FS) (w:World),(A.rep (.arr 0 (.int .i64)) []).holds S w (.agg #[]):=fun _ _=>⟨[],⟨rfl,rfl⟩,rfl⟩
theorem KF:∀w,(zeroValue 147).run Tryz.prog w= .ok (.agg #[]) w:=fun w=>by kernel_rfl
theorem K8:∀S w,(A.cells S w (.rep (.arr 0 (.int .i64)) []) (Value.cells (.agg #[])).toList):=fun _ _=>⟨rfl,rfl⟩
theorem KT:dL Tryz.prog 147 0 true:=⟨fun w=>by kernel_rfl,fun w=>by kernel_rfl⟩
theorem QO:ah Tryz.prog 82:=ah.of Tryz.func82 (by kernel_rfl) (by kernel_rfl)
theorem O2:ah Tryz.prog 83:=ah.of Tryz.func83 (by kernel_rfl) (by kernel_rfl)
theorem Ip:dL Tryz.prog 4 1 false:=⟨fun w=>by kernel_rfl,fun w=>by kernel_rfl⟩
theorem Qi:∀w,(zeroValue 4).run Tryz.prog w= .ok (.bool false) w:=fun w=>by kernel_rfl
theorem Rm:∀S w,(A.cells S w (.eq (.bool false)) (Value.cells (.bool false)).toList):=fun _ _=>⟨rfl,rfl⟩
theorem yU:xw Tryz.prog 82 (.iface 147 (.agg #[])) 4 (.bool false):=by
 refine⟨QO,fun M e0=>?_,fun M e0=>?_⟩
 ·refine ll.of (M:=M) (m:=.returning) (m1:=.returning) (val:=.nilIface) Tryz.func82 rfl rfl (by decide) rfl rfl (by decide) (fun ρ=>rfl) (fun fr b cs hb hm=>Ff hb hm rfl) (.inl rfl) fun b S w0=>?_;refine ja (IM GZ rfl KR) ?_;refine mq ?_;refine xr ?_;refine xr ?_;refine aZ rfl rfl rfl (bu rfl KF K8) trivial fun b1=>?_;refine aU rfl rfl (aR rfl KT rfl rfl rfl) ⟨rfl,rfl,trivial⟩ ?_;refine aq (nt (sr ?_));refine mq (nt ?_);refine iW rfl (fun hb=>by cases hb) (fun hb=>?_);refine bh (jT ?_);refine b8 (SE.fin (Γ':=[]) [1] trivial rfl) ?_;exact aM () [] 1 trivial rfl
 ·refine ll.of (M:=M) (m:=.panicking (gG (.iface 147 (.agg #[])) false)) (m1:=.panicking (gG (.iface 147 (.agg #[])) true)) (val:=.iface 147 (.agg #[])) Tryz.func82 rfl rfl (by decide) rfl rfl (by decide) (fun ρ=>rfl) (fun fr b cs hb hm=>Fe hb hm) (.inr ⟨_,rfl⟩) fun b S w0=>?_;refine ja (IL GZ rfl KR) ?_;refine mq ?_;refine xr ?_;refine xr ?_;refine aZ rfl rfl rfl (bu rfl KF K8) trivial fun b1=>?_;refine aU rfl rfl (aR rfl KT rfl rfl rfl) ⟨rfl,rfl,trivial⟩ ?_;refine aq (nt (sr ?_));refine mq (nt ?_);refine iW rfl (fun hb=>?_) (fun hb=>by cases hb);refine ag (fr 1 ?_);refine aU rfl rfl (aR rfl Ip rfl rfl rfl) ⟨rfl,rfl,trivial⟩ ?_;refine aE (jT ?_);refine b8 (SE.fin (Γ':=[]) [0] trivial rfl) ?_;exact aM () [] 1 trivial rfl
theorem nm(k:Nat)(a0:ai)(c z_a0:Nat)(a1:Int)(a2:Int)(r:Bool)(h:ij k a0 a1 a2=some r):
 bX (dE Tryz.prog) 66 [Pt c,.eq (.int .u8 a1),.eq (.int .u8 a2)] (qd a0 c z_a0 k) (fun _:Unit=>(bI [.eq (.bool r)],qd a0 c z_a0 k)):=by
 have cr:=nP k a0 c z_a0 a1 a2 r h
 refine zo 12 Tryz.func66 rfl Tryz.ntmps66 rfl fun S w0=>?_
 refine sr ?_
 refine aZ rfl rfl rfl (bu rfl Qi Rm) trivial fun b6=>?_
 refine nt ?_
 refine sr ?_
 refine ja (pw [] [.tmp 6] [] [(Pv b6)] rfl rfl rfl) ?_
 refine HF rfl rfl rfl rfl rfl ?_
 refine nt ?_
 refine sr ?_
 iterate 3 refine mq ?_
 refine fr 2 ?_
 refine fr 2 ?_
 cases r with
 |false=>
  refine HG (Ss:=[Pt c,.eq (.int .u8 a1),.eq (.int .u8 a2)]) (Δ:=qd a0 c z_a0 k) (F:=[.obj b6 4 (.eq (.bool false))]) [.tmp 8,.tmp 9,.tmp 10] rfl rfl rfl rfl O2 ⟨rfl,rfl,rfl,trivial⟩ cr ?_;refine sf ?_;refine b8 (SE.fin (Γ':=[(6,_)]) [2,0,1] ⟨rfl,trivial⟩ rfl) ?_;refine D8 yU ?_;refine b8 (SE.fin (Γ':=[(6,_)]) [1,2,0] ⟨rfl,trivial⟩ rfl) ?_;exact aM () [.eq (.bool false)] 2 ⟨⟨_,_,_,_,_,rfl,(.tail _ (.tail _ (.head _))),Ip,(fun _=>rfl),rfl⟩,trivial⟩ rfl
 |true=>
  refine ay (Δ:=qd a0 c z_a0 k) (F:=[.obj b6 4 (.eq (.bool false))]) (fun _ _ _=>ae rfl _) rfl rfl (aK [.tmp 8,.tmp 9,.tmp 10] rfl rfl O2 rfl cr.ok) ⟨rfl,rfl,rfl,trivial⟩ fun _=>?_;refine nt (sr (fr 2 ?_));refine aU rfl rfl (aR rfl Ip rfl rfl rfl) ⟨rfl,rfl,trivial⟩ ?_;refine nt (aC (Kv yU ?_));refine b8 (SE.fin (Γ':=[(6,_)]) [1,2,0] ⟨rfl,trivial⟩ rfl) ?_;exact aM () [.eq (.bool true)] 2 ⟨⟨_,_,_,_,_,rfl,(.tail _ (.tail _ (.head _))),Ip,(fun _=>rfl),rfl⟩,trivial⟩ rfl
def gk(k:Nat)(a0:ai)(a1:Int):Option (List Int):=
 (jI k (so (fun(y5:(List Int)) (p7:Int)=>
  (ij k a0 p7 a1).bind fun r9=>
  if r9=true then((cJ (cu (List.length y5+List.length [p7]))).bind fun _=>
  some (y5++[p7],true)) else(some (y5,true)))) a0.1 (([]:(List Int)),false)).bind fun r8=>
 if r8.2=true then(none) else(some r8.1)
theorem kg(k:Nat)(a0:ai)(c z_a0:Nat)(a1:Int)(r:(List Int))(h:gk k a0 a1=some r):
 bX (dE Tryz.prog) 40 [Pt c,.eq (.int .u8 a1)] [.obj c 109 (.pair (.rep ab a0) (.pair (.eq (.int .i32 0)) (.pair (.eq (.int .u32 0)) (.eq (.map (some z_a0)))))),.inv z_a0 (aI k a0)] (fun _:Unit=>(bI [.rep (.slice (.int .u8)) r],[.obj c 109 (.pair (.rep ab a0) (.pair (.eq (.int .i32 0)) (.pair (.eq (.int .u32 0)) (.eq (.map (some z_a0)))))),.inv z_a0 (aI k a0)])):=by
 unfold gk at h
 replace h:=bo h
 refine uB 23 Tryz.func40 rfl Tryz.ntmps40 rfl fun S w0=>?_
 refine sr ?_
 refine bx fun b1=>?_
 refine bx fun b2=>?_
 refine cq ?_
 refine nt ?_
 refine sr ?_
 refine aZ rfl rfl rfl (bu rfl Ei Hh) trivial fun b3=>?_
 refine nt ?_
 refine am ?_
 refine sr ?_
 refine fr 2 ?_
 refine lo EX ?_
 refine ja (cG rfl) ?_
 refine fl gy ?_
 refine fl eX ?_
 refine fr 3 ?_
 refine lo bT ?_
 refine aZ rfl rfl rfl (ax [.tmp 11] rfl rfl MZ rfl (mI a0.1)) ⟨rfl,trivial⟩ fun b4=>?_
 refine nt ?_
 refine ak ?_
 refine gX (SE.nil 63 (.int .u8)) ?_
 refine cK 6 rfl ?_
 refine cK 6 rfl ?_
 refine cK 2 rfl ?_
 refine cK 6 rfl ?_
 refine cK 6 rfl ?_
 refine cK 6 rfl ?_
 refine cK 6 rfl ?_
 obtain⟨r8,s,h⟩:=aa h
 refine mZ (Δ:=[.obj b4 3 (I a0.1),.obj c 109 (.pair (.rep ab a0) (.pair (.eq (.int .i32 0)) (.pair (.eq (.int .u32 0)) (.eq (.map (some z_a0)))))),.obj b1 62 (Pt c),.obj b3 87 (.eq (.slice none 0 0)),.sl (.slice none 0 0) 63 (.int .u8) ([]:(List Int)),.obj b2 63 (.eq (.int .u8 a1)),.inv z_a0 (aI k a0)]) (F:=[]) (X:=Value) (J:=fun _=>Jo r8.2) (E:=fun z6=>[.obj b4 3 (I a0.1),.obj c 109 (.pair (.rep ab a0) (.pair (.eq (.int .i32 0)) (.pair (.eq (.int .u32 0)) (.eq (.map (some z_a0)))))),.obj b1 62 (Pt c),.obj b3 87 (.eq z6),.sl z6 63 (.int .u8) r8.1,.obj b2 63 (.eq (.int .u8 a1)),.inv z_a0 (aI k a0)]) (r0:=fun _=>.tup .any) rfl rfl MX (fun rec hp ha hb hs hpe hN hv l=>?_) (fun dl z6=>pi (fun hj=>?_) (fun hj=>?_))
 ·
  rcases rec with⟨st0,pe0,fn0,tm0,ps0,as0,bd0,df0⟩;dsimp only at hp ha hb hs hpe hN hv;subst hp hs hpe;have vN:xk tm0 [(2,Pt b1),(3,Pt b2),(5,Pt b3)]:=⟨congrArg A.eq (hv 2 _ rfl).symm,congrArg A.eq (hv 3 _ rfl).symm,congrArg A.eq (hv 5 _ rfl).symm,trivial⟩;refine bX.pick (M:=(dE Tryz.prog)) [1,0,2,3,4,5,6,7] [1,0,2,3,4,5,6,7] (kV (fun(z6:Value) (q:(List Int)×Bool)=>[.raw l (.loop (iI ⟨.ready,none,fn0,tm0, #[13],as0,bd0,df0⟩ (Jo q.2))),.obj c 109 (.pair (.rep ab a0) (.pair (.eq (.int .i32 0)) (.pair (.eq (.int .u32 0)) (.eq (.map (some z_a0)))))),.obj b1 62 (Pt c),.obj b3 87 (.eq z6),.sl z6 63 (.int .u8) q.1,.obj b2 63 (.eq (.int .u8 a1)),.inv z_a0 (aI k a0)]) l (so (fun(y5:(List Int)) (p7:Int)=>
  (ij k a0 p7 a1).bind fun r9=>
  if r9=true then((cJ (cu (List.length y5+List.length [p7]))).bind fun _=>
  some (y5++[p7],true)) else(some (y5,true)))) k a0.1 b4 (fun z6 q p r' h=>?_) (.slice none 0 0) (([]:(List Int)),false) r8 s) rfl (fun _=>rfl) (fun _=>rfl)
  obtain⟨rq,hq,h2,rfl⟩:=pj h;obtain⟨y5,b5⟩:=q;obtain rfl:b5=false:=hq;replace h:=bo h2;obtain⟨p7,hpv⟩:∃x,x=p:=⟨_,rfl⟩;subst hpv;refine YT.pick (R':=(fun z6:Value=>(.eq (.bool rq.2),[.raw l (.loop (iI ⟨.ready,none,fn0,tm0, #[13],as0,bd0,df0⟩ (Jo (!rq.2)))),.obj c 109 (.pair (.rep ab a0) (.pair (.eq (.int .i32 0)) (.pair (.eq (.int .u32 0)) (.eq (.map (some z_a0)))))),.obj b1 62 (Pt c),.obj b3 87 (.eq z6),.sl z6 63 (.int .u8) rq.1,.obj b2 63 (.eq (.int .u8 a1)),.inv z_a0 (aI k a0)]))) [0,1,2,3,4,5,6] [0,1,2,3,4,5,6] (AN ha hb (N:=23) (Γ:=[(2,Pt b1),(3,Pt b2),(5,Pt b3)]) rfl hN (by decide) vN (fun S w=>?_)) rfl (fun _=>rfl) (fun _=>rfl);refine ag (aq (nl ?_));refine ux rfl rfl ?_;refine ak (sr (fr 2 ?_));refine lo EX ?_;refine mq ?_;refine fr 5 ?_;refine lo pg ?_;obtain⟨r9,n,h⟩:=aa h;refine fr 6 ?_;refine fr 4 ?_;refine ay (Δ:=[_,_]) (F:=_) (fun _ _ _=>ae rfl _) rfl rfl (aK [.tmp 14,.tmp 15,.tmp 16] rfl rfl QV rfl (nm k a0 c z_a0 p7 a1 r9 n)) ⟨rfl,rfl,rfl,trivial⟩ fun _=>?_;refine nt (cv h (fun h=>?_) (fun h=>?_))
  ·refine ag (fr 5 ?_);refine lo ri ?_;refine mq ?_;refine ja (bf (t:=(.int .u8)) [(.tmp 19,_)] [p7] rfl rfl C7 (.cons rfl .int .nil) rfl rfl) ?_;obtain⟨u,e,h⟩:=aa h;refine fr 6 ?_;refine dN rfl rfl rfl (cx rfl rfl C7 (ao e)) ⟨rfl,rfl,trivial⟩ fun j=>?_;refine sd fun o12=>?_;refine fr 1 ?_;refine aU rfl rfl (aR rfl ri o12 rfl rfl) ⟨rfl,rfl,trivial⟩ ?_;refine aE (aS (aO 3 rfl ?_));refine aO 4 rfl ?_;refine aO 3 rfl ?_;refine aO 3 rfl ?_;refine aO 5 rfl ?_;refine aO 5 rfl ?_;refine aO 6 rfl ?_;cases h;exact kE j 6 rfl
  ·refine bh (aS (aO 1 rfl ?_));refine aO 2 rfl ?_;refine aO 6 rfl ?_;refine aO 6 rfl ?_;refine aO 5 rfl ?_;refine aO 5 rfl ?_;refine aO 6 rfl ?_;cases h;exact kE z6 6 rfl
 ·
  replace h:=cV (KQ hj) h;refine aS (tn (sr (fr 4 ?_)));refine lo ri ?_;refine aq (nt (aC ?_));refine aO 5 rfl ?_;refine b8 (pW (off:=0) [4,22] ⟨rfl,rfl,trivial⟩ rfl rfl) ?_;refine aO 1 rfl ?_;refine xo ?_;refine b8 (SE.fin (Γ':=[(4,_)]) [2,5,0,1,3,4] ⟨rfl,trivial⟩ rfl) ?_;cases h;exact aM () [_] 2 ⟨rfl,trivial⟩ rfl
 ·
  replace h:=eO (KO hj) h;cases h
def jB(k:Nat)(r9:(List Int)):Nat→((List (List Int))×Int)→Option (List (List Int))
 |0,_=>none
 |n+1,c=>
  if c.2 < (r9.length:Int) then((aX r9 c.2).bind fun j=>
  (gi k j).bind fun e=>
  (cJ (cu (List.length c.1+List.length [e]))).bind fun _=>
  (ck (c.2+1)).bind fun h=>
  jB k r9 n (c.1++[e],h)) else(some c.1)
def pI(k:Nat)(a0:ai):Option ((List (List Int))×Int):=
 (jG k a0 ([]:(List Int)) ([]:(List Int)) ([]:(List Int)) ([]:(List Int))).bind fun r2=>
 fa r2.1 (if¬(r2.2.2=0) then(some (([]:(List (List Int))),r2.2.2)) else(none)) (fun q3=>if¬(r2.2.2=0) then(some (([]:(List (List Int))),r2.2.2)) else((((gk k q3 0).bind fun r9=>
 jB k r9 k (([]:(List (List Int))),0)):Option ((List (List Int)))).bind fun x7=>
 some (x7,0)))
theorem uS(k:Nat)(a0:ai)(r:(List (List Int))×Int)(h:pI k a0=some r):
 bX (dE Tryz.prog) 18 [.rep ab a0] [] (fun _:Unit=>(bI [.rep (.slice (.slice (.int .i64))) r.1,I r.2],[])):=by
 unfold pI at h
 replace h:=bo h
 refine bX.of 33 Tryz.func18 rfl Tryz.ntmps18 rfl fun S w0=>?_
 refine sr ?_
 refine bx fun b1=>?_
 refine cq ?_
 refine cq ?_
 refine nt ?_
 refine sr ?_
 refine lo iZ ?_
 obtain⟨r2,Q,h⟩:=aa h
 have j:=lC k a0 ([]:(List Int)) ([]:(List Int)) ([]:(List Int)) ([]:(List Int)) r2 Q
 rcases hr:r2.1 with _ |q3
 ·
  rw [hr] at h j;replace h:=ua h;refine ay (Δ:=[]) (F:=_) (fun _ _ _=>ae rfl _) rfl rfl (bv (N:=[(.tmp 11,.rep ab a0),(.const (.slice none 0 0),.eq (.slice none 0 0)),(.const (.slice none 0 0),.eq (.slice none 0 0)),(.const (.slice none 0 0),.eq (.slice none 0 0)),(.const (.slice none 0 0),.eq (.slice none 0 0))]) (aK [.tmp 11,.const (.slice none 0 0),.const (.slice none 0 0),.const (.slice none 0 0),.const (.slice none 0 0)] rfl rfl yL rfl j) fun _ _ _ hn=>⟨hn.1,(aA (t:=(.slice (.int .i64))) (x:=([]:(List Int))) .nil rfl rfl hn.2.1),(aA (t:=(.slice (.int .i64))) (x:=([]:(List Int))) .nil rfl rfl hn.2.2.1),(aA (t:=(.slice (.int .i64))) (x:=([]:(List Int))) .nil rfl rfl hn.2.2.2.1),(aA (t:=(.slice (.int .i64))) (x:=([]:(List Int))) .nil rfl rfl hn.2.2.2.2.1),trivial⟩) ⟨rfl,rfl,rfl,rfl,rfl,trivial⟩ fun _=>?_;refine mq ?_;refine xr ?_;refine xr ?_;refine xr ?_;refine aq ?_;refine aq ?_;refine aq (nt (am (sr ?_)));refine mq ?_;refine jb (eR rfl) ?_;refine nt (cn h (fun h=>?_) (fun h=>?_))
  ·refine sr (mq ?_);refine cq ?_;refine aq (nt (rx ?_));refine b8 (d4 (t:=(.slice (.slice (.int .i64)))) (x:=([]:(List (List Int)))) 2 rfl .nil rfl rfl) ?_;cases h;exact rb
  ·cases h
 ·
  rw [hr] at h j;replace h:=t9 h;refine ay (Δ:=[]) (F:=_) (fun _ _ _=>ae rfl _) rfl rfl (bv (N:=[(.tmp 11,.rep ab a0),(.const (.slice none 0 0),.eq (.slice none 0 0)),(.const (.slice none 0 0),.eq (.slice none 0 0)),(.const (.slice none 0 0),.eq (.slice none 0 0)),(.const (.slice none 0 0),.eq (.slice none 0 0))]) (aK [.tmp 11,.const (.slice none 0 0),.const (.slice none 0 0),.const (.slice none 0 0),.const (.slice none 0 0)] rfl rfl yL rfl j) fun _ _ _ hn=>⟨hn.1,(aA (t:=(.slice (.int .i64))) (x:=([]:(List Int))) .nil rfl rfl hn.2.1),(aA (t:=(.slice (.int .i64))) (x:=([]:(List Int))) .nil rfl rfl hn.2.2.1),(aA (t:=(.slice (.int .i64))) (x:=([]:(List Int))) .nil rfl rfl hn.2.2.2.1),(aA (t:=(.slice (.int .i64))) (x:=([]:(List Int))) .nil rfl rfl hn.2.2.2.2.1),trivial⟩) ⟨rfl,rfl,rfl,rfl,rfl,trivial⟩ fun z6=>?_;refine mq ?_;refine xr ?_;refine xr ?_;refine xr ?_;refine aq ?_;refine aq ?_;refine aq (nt (am (sr ?_)));refine mq ?_;refine jb (eR rfl) ?_;refine nt (cn h (fun h=>?_) (fun h=>?_))
  ·refine sr (mq ?_);refine cq ?_;refine aq (nt (rx ?_));refine b8 (d4 (t:=(.slice (.slice (.int .i64)))) (x:=([]:(List (List Int)))) 2 rfl .nil rfl rfl) ?_;cases h;exact rb
  ·refine sk (sr (cq (nt ?_)));refine aJ (Z:=Value) (α:=(List (List Int))) (fun z8 x7=>[(7,.eq z8)]) (fun z8 x7=>[.sl z8 22 (.slice (.int .i64)) x7,.inv z6.2 (aI k q3)]) h (fun K h=>?_) (fun z8 x7 h=>?_)
   ·refine sr (mq ?_);obtain⟨r9,O,h⟩:=aa h;refine fr 1 ?_;refine fr 1 ?_;refine ay (Δ:=[_,_]) (F:=_) (fun _ _ _=>ae rfl _) rfl rfl (aK [.tmp 19,.const (.int .u8 (0))] rfl rfl O9 rfl (kg k q3 z6.1 z6.2 0 r9 O)) ⟨rfl,rfl,trivial⟩ fun _=>?_;refine ol vS ?_;refine dT rfl ?_;refine nt (ak (gX (SE.nil 22 (.slice (.int .i64))) ?_));refine aH (fun e c=>[(7,.eq e),(20,.rep (.slice (.int .u8)) r9),(21,I (r9.length:Int)),(22,I c.2)]) (fun e c=>[.sl e 22 (.slice (.int .i64)) c.1,.inv z6.2 (aI k q3)]) (jB k r9) k (.slice none 0 0) (([]:(List (List Int))),0) (fun _=>rfl) h (SE.fin [0,2] ⟨rfl,rfl,rfl,rfl,trivial⟩ rfl) (fun n e c h=>?_);unfold jB at h;refine sr (jb (bG rfl) ?_);refine nt (am (ci h (fun h=>?_) (fun h=>?_)))
    ·refine sk (am (ak (sr ?_)));obtain⟨J,u,h⟩:=aa h;refine jb (be (t:=(.int .u8)) rfl vS pg u) ?_;refine ja (av (t:=(.int .u8)) rfl pg rfl) ?_;refine aq (nt (ag ?_));iterate 2 refine mq ?_
     obtain⟨l,D,h⟩:=aa h;refine ja (ax [.tmp 27] rfl rfl JA rfl (g7 k J l D)) ?_;refine ja (bf (t:=(.slice (.int .i64))) [(.tmp 28,_)] [l] rfl rfl oQ (.cons rfl .rep .nil) rfl rfl) ?_;obtain⟨U,y,h⟩:=aa h;refine dN rfl rfl rfl (cx rfl rfl oQ (ao y)) ⟨rfl,rfl,trivial⟩ fun M=>?_;refine aq (aE (aS (tn (ag ?_))));obtain⟨E,s,h⟩:=aa h;refine jb (bB rfl s) ?_;refine mq (nl ?_);exact jz (M,(c.1++[l],E)) h [0,1]
    ·refine xa ?_;exact jz (e,c.1) h [0,1]
   ·refine sr (mq ?_);refine aq ?_;refine cq (nt (aC ?_));refine b8 (iV [2,7,32] ⟨rfl,rfl,rfl,trivial⟩) ?_;cases h;exact rb
def l9(k:Nat)(a0:ai)(a1:(List Int))(a2:(List Int))(a3:(List Int)):Option ((Option ai)×(List Int)×Int):=
 (jG k a0 ([]:(List Int)) a1 a2 a3).bind fun r2=>
 fa r2.1 (if¬(r2.2.2=0) then(some (none,([]:(List Int)),r2.2.2)) else(none)) (fun q3=>if¬(r2.2.2=0) then(some (none,([]:(List Int)),r2.2.2)) else((gk k q3 0).bind fun r5=>
 if(r5.length:Int)=0 then(some (none,([]:(List Int)),9)) else(some (some q3,r5,0))))
theorem mJ(k:Nat)(a0:ai)(a1:(List Int))(a2:(List Int))(a3:(List Int))(r:(Option ai)×(List Int)×Int)(h:l9 k a0 a1 a2 a3=some r):
 bX (dE Tryz.prog) 43 [.rep ab a0,Ri a1,Ri a2,Ri a3] [] (fun z:Nat×Nat=>(bI [IJ r.1 z.1,.rep (.slice (.int .u8)) r.2.1,I r.2.2],II r.1 fun q=>qd q z.1 z.2 k)):=by
 unfold l9 at h
 replace h:=bo h
 refine bX.of 34 Tryz.func43 rfl Tryz.ntmps43 rfl fun S w0=>?_
 refine sr ?_
 refine bx fun b1=>?_
 refine cq ?_
 refine cq ?_
 refine cq ?_
 refine nt ?_
 refine sr ?_
 refine lo iZ ?_
 iterate 3 refine mq ?_
 obtain⟨r2,j,h⟩:=aa h
 have c:=lC k a0 ([]:(List Int)) a1 a2 a3 r2 j
 rcases hr:r2.1 with _ |q3
 ·
  rw [hr] at h c;replace h:=ua h;refine ay (Δ:=[]) (F:=_) (fun _ _ _=>ae rfl _) rfl rfl (bv (N:=[(.tmp 16,.rep ab a0),(.const (.slice none 0 0),.eq (.slice none 0 0)),(.tmp 17,Ri a1),(.tmp 18,Ri a2),(.tmp 19,Ri a3)]) (aK [.tmp 16,.const (.slice none 0 0),.tmp 17,.tmp 18,.tmp 19] rfl rfl yL rfl c) fun _ _ _ hn=>⟨hn.1,(aA (t:=(.slice (.int .i64))) (x:=([]:(List Int))) .nil rfl rfl hn.2.1),hn.2.2.1,hn.2.2.2.1,hn.2.2.2.2.1,trivial⟩) ⟨rfl,rfl,rfl,rfl,rfl,trivial⟩ fun _=>?_;refine mq ?_;refine xr ?_;refine xr ?_;refine xr ?_;refine aq ?_;refine aq ?_;refine aq (nt (am (sr ?_)));refine mq ?_;refine jb (eR rfl) ?_;refine nt (cn h (fun h=>?_) (fun h=>?_))
  ·refine sr (mq ?_);refine cq ?_;refine cq ?_;refine aq (nt (rx ?_));refine b8 (d4 (t:=(.slice (.int .u8))) (x:=([]:(List Int))) 9 rfl .nil rfl rfl) ?_;cases h;exact aM (0,0) [.eq (.pointer none),_,_] 0 ⟨rfl,rfl,rfl,trivial⟩ rfl
  ·cases h
 ·
  rw [hr] at h c;replace h:=t9 h;refine ay (Δ:=[]) (F:=_) (fun _ _ _=>ae rfl _) rfl rfl (bv (N:=[(.tmp 16,.rep ab a0),(.const (.slice none 0 0),.eq (.slice none 0 0)),(.tmp 17,Ri a1),(.tmp 18,Ri a2),(.tmp 19,Ri a3)]) (aK [.tmp 16,.const (.slice none 0 0),.tmp 17,.tmp 18,.tmp 19] rfl rfl yL rfl c) fun _ _ _ hn=>⟨hn.1,(aA (t:=(.slice (.int .i64))) (x:=([]:(List Int))) .nil rfl rfl hn.2.1),hn.2.2.1,hn.2.2.2.1,hn.2.2.2.2.1,trivial⟩) ⟨rfl,rfl,rfl,rfl,rfl,trivial⟩ fun z4=>?_;refine mq ?_;refine xr ?_;refine xr ?_;refine xr ?_;refine aq ?_;refine aq ?_;refine aq (nt (am (sr ?_)));refine mq ?_;refine jb (eR rfl) ?_;refine nt (cn h (fun h=>?_) (fun h=>?_))
  ·refine sr (mq ?_);refine cq ?_;refine cq ?_;refine aq (nt (rx ?_));refine b8 (d4 (t:=(.slice (.int .u8))) (x:=([]:(List Int))) 9 rfl .nil rfl rfl) ?_;cases h;exact aM (0,0) [.eq (.pointer none),_,_] 0 ⟨rfl,rfl,rfl,trivial⟩ rfl
  ·refine sk (sr (mq ?_));obtain⟨r5,e,h⟩:=aa h;refine fr 1 ?_;refine fr 1 ?_;refine ay (Δ:=[_,_]) (F:=_) (fun _ _ _=>ae rfl _) rfl rfl (aK [.tmp 27,.const (.int .u8 (0))] rfl rfl O9 rfl (kg k q3 z4.1 z4.2 0 r5 e)) ⟨rfl,rfl,trivial⟩ fun _=>?_;refine aq (nt (am (sr ?_)));refine mq ?_;refine ol vS ?_;refine jb (jd rfl) ?_;refine nt (ci h (fun h=>?_) (fun h=>?_))
   ·refine sr (cq ?_);refine cq ?_;refine cq (nt (rx ?_));refine b8 (d4 (t:=(.slice (.int .u8))) (x:=([]:(List Int))) 9 rfl .nil rfl rfl) ?_;cases h;exact aM (0,0) [.eq (.pointer none),_,_] 0 ⟨rfl,rfl,rfl,trivial⟩ rfl
   ·refine sk (sr ?_);iterate 2 refine mq ?_
    refine aq ?_;refine aq ?_;refine cq (nt (aC ?_));cases h;exact aM (z4.1,z4.2) [.eq (.pointer (some ⟨z4.1,0,none⟩)),_,_] 2 ⟨rfl,rfl,rfl,trivial⟩ rfl
def nQ(k:Nat)(r2:(Option ai)×(List Int)×Int):Nat→Unit→Option Unit
 |0,_=>none
 |n+1,c=>
  if 0 < (r2.2.1.length:Int) then(none) else(some ())
def lF(k:Nat)(a0:ai)(r2:(Option ai)×(List Int)×Int):Nat→((List Int)×Int)→Option (List Int)
 |0,_=>none
 |n+1,y6=>
  if y6.2 < a0.1 then(((((nQ k r2 k ()):Option (Unit)).bind fun _=>
  (ck ((r2.2.1.length:Int) - 0)).bind fun c=>
  (cJ (cu (List.length y6.1+List.length [j8 0 c]))).bind fun _=>
  some (y6.1++[j8 0 c])):Option ((List Int))).bind fun x8=>
  (ck (y6.2+1)).bind fun e=>
  lF k a0 r2 n (x8,e)) else(some y6.1)
def lD(k:Nat)(a0:ai)(a1:Int)(r2:(Option ai)×(List Int)×Int)(q3:ai)(e:(List Int)×Int):Nat→(Int×Int)→Option Int
 |0,_=>none
 |n+1,c=>
  if c.2 < (r2.2.1.length:Int) then((((aX r2.2.1 c.2).bind fun s=>
  (lu k q3 s).bind fun x=>
  (aX x a1).bind fun r=>
  (aX r e.2).bind fun l=>
  if a0.2.2.1≤l then((ck (c.1+1)).bind fun j=>
  some j) else(some c.1)):Option (Int)).bind fun u=>
  (ck (c.2+1)).bind fun h=>
  lD k a0 a1 r2 q3 e n (u,h)) else(some c.1)
def lE(k:Nat)(a0:ai)(a1:Int)(r2:(Option ai)×(List Int)×Int)(q3:ai):Nat→((List Int)×Int)→Option (List Int)
 |0,_=>none
 |n+1,c=>
  if c.2 < a0.1 then(((((lD k a0 a1 r2 q3 c k (0,0)):Option (Int)).bind fun e=>
  (ck ((r2.2.1.length:Int) - e)).bind fun h=>
  (cJ (cu (List.length c.1+List.length [j8 e h]))).bind fun _=>
  some (c.1++[j8 e h])):Option ((List Int))).bind fun l=>
  (ck (c.2+1)).bind fun j=>
  lE k a0 a1 r2 q3 n (l,j)) else(some c.1)
def tO(k:Nat)(a0:ai)(a1:Int):Option (Int×Int×Int):=
 (l9 k a0 ([]:(List Int)) ([]:(List Int)) [a1]).bind fun r2=>
 fa r2.1 (if¬(r2.2.2=0) then(some (0,0,r2.2.2)) else(((lF k a0 r2 k (([]:(List Int)),0)):Option ((List Int))).bind fun x4=>
 (im k x4).bind fun e=>
 if(r2.2.1.length:Int)≤e then(some (0,0,11)) else((eJ k x4 e).bind fun l=>
 some (l,e,0)))) (fun q3=>if¬(r2.2.2=0) then(some (0,0,r2.2.2)) else(((lE k a0 a1 r2 q3 k (([]:(List Int)),0)):Option ((List Int))).bind fun h=>
 (im k h).bind fun c=>
 if(r2.2.1.length:Int)≤c then(some (0,0,11)) else((eJ k h c).bind fun j=>
 some (j,c,0))))
theorem yt(k:Nat)(a0:ai)(a1:Int)(r:Int×Int×Int)(h:tO k a0 a1=some r):
 bX (dE Tryz.prog) 22 [.rep ab a0,I a1] [] (fun _:Unit=>(bI [I r.1,I r.2.1,I r.2.2],[])):=by
 unfold tO at h
 replace h:=bo h
 refine bX.of 71 Tryz.func22 rfl Tryz.ntmps22 rfl fun S w0=>?_
 refine sr ?_
 refine bx fun b1=>?_
 refine cq ?_
 refine cq ?_
 refine cq ?_
 refine nt ?_
 refine sr ?_
 refine lo iZ ?_
 refine mq ?_
 refine ja (bf (t:=(.int .i64)) [(.tmp 18,_)] [a1] rfl rfl dn (.cons rfl .int .nil) rfl rfl) ?_
 obtain⟨r2,TA,h⟩:=aa h
 have qt:=mJ k a0 ([]:(List Int)) ([]:(List Int)) [a1] r2 TA
 rcases hr:r2.1 with _ |q3
 ·
  rw [hr] at h qt;replace h:=ua h;refine ay (Δ:=[]) (F:=_) (fun _ _ _=>ae rfl _) rfl rfl (bv (N:=[(.tmp 17,.rep ab a0),(.const (.slice none 0 0),.eq (.slice none 0 0)),(.const (.slice none 0 0),.eq (.slice none 0 0)),(.tmp 19,Ri [a1])]) (aK [.tmp 17,.const (.slice none 0 0),.const (.slice none 0 0),.tmp 19] rfl rfl Du rfl qt) fun _ _ _ hn=>⟨hn.1,(aA (t:=(.slice (.int .i64))) (x:=([]:(List Int))) .nil rfl rfl hn.2.1),(aA (t:=(.slice (.int .i64))) (x:=([]:(List Int))) .nil rfl rfl hn.2.2.1),hn.2.2.2.1,trivial⟩) ⟨rfl,rfl,rfl,rfl,trivial⟩ fun _=>?_;refine mq ?_;refine xr ?_;refine xr ?_;refine xr ?_;refine aq ?_;refine aq ?_;refine aq (nt (am (sr ?_)));refine mq ?_;refine jb (eR rfl) ?_;refine nt (cn h (fun h=>?_) (fun h=>?_))
  ·refine sr (mq ?_);refine cq ?_;refine cq ?_;refine aq (nt (rx ?_));cases h;exact aM () [_,_,_] 0 ⟨rfl,rfl,rfl,trivial⟩ rfl
  ·refine sk (sr (cq (nt ?_)));refine aJ (Z:=Value) (α:=(List Int)) (fun z5 x4=>[(8,.rep (.slice (.int .u8)) r2.2.1),(10,.eq z5)]) (fun z5 x4=>[.sl z5 3 (.int .i64) x4]) h (fun K h=>?_) (fun z5 x4 h=>?_)
   ·refine sr (fl eX ?_);refine lo bT ?_;refine dT rfl ?_;refine nt (ak (gX (SE.nil 3 (.int .i64)) ?_));refine aH (fun z7 y6=>[(1,I a1),(2,Pt b1),(7,.eq (.pointer none)),(8,.rep (.slice (.int .u8)) r2.2.1),(10,.eq z7),(28,I a0.1),(29,I y6.2)]) (fun z7 y6=>[.obj b1 28 (.rep ab a0),.sl z7 3 (.int .i64) y6.1]) (lF k a0 r2) k (.slice none 0 0) (([]:(List Int)),0) (fun _=>rfl) h (SE.fin [1,0] ⟨rfl,rfl,rfl,rfl,rfl,rfl,rfl,trivial⟩ rfl) (fun n z7 y6 h=>?_);unfold lF at h;refine sr (jb (bG rfl) ?_);refine nt (am (ci h (fun h=>?_) (fun h=>?_)))
    ·refine sk (aJ (Z:=Value) (α:=(List Int)) (fun z9 x8=>[(1,I a1),(2,Pt b1),(7,.eq (.pointer none)),(8,.rep (.slice (.int .u8)) r2.2.1),(10,.eq z9),(28,I a0.1),(29,I y6.2)]) (fun z9 x8=>[.obj b1 28 (.rep ab a0),.sl z9 3 (.int .i64) x8]) h (fun K h=>?_) (fun z9 x8 h=>?_))
     ·refine ak (sr (mq ?_));refine aq (nt (sr ?_));refine cq (nt ?_);refine aJ (Z:=Unit) (α:=Unit) (fun SL SR=>[(1,I a1),(2,Pt b1),(7,.eq (.pointer none)),(8,.rep (.slice (.int .u8)) r2.2.1),(10,.eq z7),(12,I 0),(28,I a0.1),(29,I y6.2)]) (fun SL SR=>[.obj b1 28 (.rep ab a0),.sl z7 3 (.int .i64) y6.1]) h (fun K h=>?_) (fun SL SR h=>?_)
      ·refine sr (mq ?_);refine ol vS ?_;refine dT rfl ?_;refine nt (ak (aH (fun SK SN=>[(1,I a1),(2,Pt b1),(7,.eq (.pointer none)),(8,.rep (.slice (.int .u8)) r2.2.1),(10,.eq z7),(11,I y6.2),(12,I 0),(28,I a0.1),(29,I y6.2),(32,.rep (.slice (.int .u8)) r2.2.1),(33,I (r2.2.1.length:Int)),(34,I 0)]) (fun SK SN=>[.obj b1 28 (.rep ab a0),.sl z7 3 (.int .i64) y6.1]) (nQ k r2) k () () (fun _=>rfl) h (SE.fin [0,1] ⟨rfl,rfl,rfl,rfl,rfl,rfl,rfl,rfl,rfl,rfl,rfl,rfl,trivial⟩ rfl) (fun n SK SN h=>?_)));unfold nQ at h;refine sr (jb (bG rfl) ?_);refine nt (am (ci h (fun h=>?_) (fun h=>?_)))
       ·cases h
       ·refine xa ?_;exact jz ((),()) h [0,1]
      ·refine ag ?_;iterate 3 refine mq ?_
       refine ol vS ?_;refine mq ?_;obtain⟨SQ,S5,h⟩:=aa h;refine jb (ek rfl S5) ?_;refine jb (yj rfl rfl) ?_;refine ja (bf (t:=(.int .i64)) [(.tmp 57,_)] [j8 0 SQ] rfl rfl dn (.cons rfl .int .nil) rfl rfl) ?_;obtain⟨TC,S9,h⟩:=aa h;refine fr 1 ?_;refine dN rfl rfl rfl (cx rfl rfl dn (ao S9)) ⟨rfl,rfl,trivial⟩ fun Tu=>?_;refine aq (aE (bn ?_));exact jz (Tu,y6.1++[j8 0 SQ]) h [1,0]
     ·refine ag ?_;obtain⟨To,SZ,h⟩:=aa h;refine jb (bB rfl SZ) ?_;refine mq (nl ?_);exact jz (z9,(x8,To)) h [0,1]
    ·refine xa ?_;exact jz (z7,y6.1) h [1]
   ·refine sr (mq ?_);obtain⟨SG,Ti,h⟩:=aa h;refine ka (gf (N:=[(.tmp 61,.eq z5)]) (ax [.tmp 61] rfl rfl Jz rfl (iE k x4 SG Ti)) (fun _ _ _ hv hn=>⟨(lend hn.1 hv),trivial⟩) (fun _=>⟨rfl,jK⟩)) ?_;refine aq (nt (am (sr ?_)));iterate 2 refine mq ?_
    refine ol vS ?_;refine jb (i9 rfl) ?_;refine nt (ci h (fun h=>?_) (fun h=>?_))
    ·refine sr (cq ?_);refine cq ?_;refine cq (nt (rx ?_));cases h;exact aM () [_,_,_] 0 ⟨rfl,rfl,rfl,trivial⟩ rfl
    ·refine sk (sr ?_);iterate 2 refine mq ?_
     obtain⟨Tz,Tf,h⟩:=aa h;refine kb (gf (N:=[(.tmp 67,.eq z5),(.tmp 68,I SG)]) (ax [.tmp 67,.tmp 68] rfl rfl M5 rfl (je k x4 SG Tz Tf)) (fun _ _ _ hv hn=>⟨(lend hn.1 hv),hn.2.1,trivial⟩) (fun _=>⟨rfl,jK⟩)) ?_;refine mq ?_;refine aq ?_;refine aq ?_;refine cq (nt (aC ?_));cases h;exact aM () [_,_,_] 0 ⟨rfl,rfl,rfl,trivial⟩ rfl
 ·
  rw [hr] at h qt;replace h:=t9 h;refine ay (Δ:=[]) (F:=_) (fun _ _ _=>ae rfl _) rfl rfl (bv (N:=[(.tmp 17,.rep ab a0),(.const (.slice none 0 0),.eq (.slice none 0 0)),(.const (.slice none 0 0),.eq (.slice none 0 0)),(.tmp 19,Ri [a1])]) (aK [.tmp 17,.const (.slice none 0 0),.const (.slice none 0 0),.tmp 19] rfl rfl Du rfl qt) fun _ _ _ hn=>⟨hn.1,(aA (t:=(.slice (.int .i64))) (x:=([]:(List Int))) .nil rfl rfl hn.2.1),(aA (t:=(.slice (.int .i64))) (x:=([]:(List Int))) .nil rfl rfl hn.2.2.1),hn.2.2.2.1,trivial⟩) ⟨rfl,rfl,rfl,rfl,trivial⟩ fun c=>?_;refine mq ?_;refine xr ?_;refine xr ?_;refine xr ?_;refine aq ?_;refine aq ?_;refine aq (nt (am (sr ?_)));refine mq ?_;refine jb (eR rfl) ?_;refine nt (cn h (fun h=>?_) (fun h=>?_))
  ·refine sr (mq ?_);refine cq ?_;refine cq ?_;refine aq (nt (rx ?_));cases h;exact aM () [_,_,_] 0 ⟨rfl,rfl,rfl,trivial⟩ rfl
  ·refine sk (sr (cq (nt ?_)));refine aJ (Z:=Value) (α:=(List Int)) (fun O gq=>[(8,.rep (.slice (.int .u8)) r2.2.1),(10,.eq O)]) (fun O gq=>[.sl O 3 (.int .i64) gq,.inv c.2 (aI k q3)]) h (fun K h=>?_) (fun O gq h=>?_)
   ·refine sr (fl eX ?_);refine fr 2 ?_;refine lo bT ?_;refine dT rfl ?_;refine nt (ak (gX (SE.nil 3 (.int .i64)) ?_));refine aH (fun l j=>[(1,I a1),(2,Pt b1),(7,.eq (.pointer (some ⟨c.1,0,none⟩))),(8,.rep (.slice (.int .u8)) r2.2.1),(10,.eq l),(28,I a0.1),(29,I j.2)]) (fun l j=>[.obj b1 28 (.rep ab a0),.obj c.1 109 (.pair (.rep ab q3) (.pair (.eq (.int .i32 0)) (.pair (.eq (.int .u32 0)) (.eq (.map (some c.2)))))),.sl l 3 (.int .i64) j.1,.inv c.2 (aI k q3)]) (lE k a0 a1 r2 q3) k (.slice none 0 0) (([]:(List Int)),0) (fun _=>rfl) h (SE.fin [1,2,0,3] ⟨rfl,rfl,rfl,rfl,rfl,rfl,rfl,trivial⟩ rfl) (fun n l j h=>?_);unfold lE at h;refine sr (jb (bG rfl) ?_);refine nt (am (ci h (fun h=>?_) (fun h=>?_)))
    ·refine sk (aJ (Z:=Value) (α:=(List Int)) (fun U mw=>[(1,I a1),(2,Pt b1),(7,.eq (.pointer (some ⟨c.1,0,none⟩))),(8,.rep (.slice (.int .u8)) r2.2.1),(10,.eq U),(28,I a0.1),(29,I j.2)]) (fun U mw=>[.obj b1 28 (.rep ab a0),.obj c.1 109 (.pair (.rep ab q3) (.pair (.eq (.int .i32 0)) (.pair (.eq (.int .u32 0)) (.eq (.map (some c.2)))))),.sl U 3 (.int .i64) mw,.inv c.2 (aI k q3)]) h (fun K h=>?_) (fun U mw h=>?_))
     ·refine ak (sr (mq ?_));refine aq (nt (sr ?_));refine cq (nt ?_);refine aJ (Z:=Unit) (α:=Int) (fun SJ Y=>[(1,I a1),(2,Pt b1),(7,.eq (.pointer (some ⟨c.1,0,none⟩))),(8,.rep (.slice (.int .u8)) r2.2.1),(10,.eq l),(12,I Y),(28,I a0.1),(29,I j.2)]) (fun SJ Y=>[.obj b1 28 (.rep ab a0),.obj c.1 109 (.pair (.rep ab q3) (.pair (.eq (.int .i32 0)) (.pair (.eq (.int .u32 0)) (.eq (.map (some c.2)))))),.sl l 3 (.int .i64) j.1,.inv c.2 (aI k q3)]) h (fun K h=>?_) (fun SJ Y h=>?_)
      ·refine sr (mq ?_);refine ol vS ?_;refine dT rfl ?_;refine nt (ak (aH (fun SI E=>[(1,I a1),(2,Pt b1),(7,.eq (.pointer (some ⟨c.1,0,none⟩))),(8,.rep (.slice (.int .u8)) r2.2.1),(10,.eq l),(11,I j.2),(12,I E.1),(28,I a0.1),(29,I j.2),(32,.rep (.slice (.int .u8)) r2.2.1),(33,I (r2.2.1.length:Int)),(34,I E.2)]) (fun SI E=>[.obj b1 28 (.rep ab a0),.obj c.1 109 (.pair (.rep ab q3) (.pair (.eq (.int .i32 0)) (.pair (.eq (.int .u32 0)) (.eq (.map (some c.2)))))),.sl l 3 (.int .i64) j.1,.inv c.2 (aI k q3)]) (lD k a0 a1 r2 q3 j) k () (0,0) (fun _=>rfl) h (SE.fin [0,1,2,3] ⟨rfl,rfl,rfl,rfl,rfl,rfl,rfl,rfl,rfl,rfl,rfl,rfl,trivial⟩ rfl) (fun n SI E h=>?_)));unfold lD at h;refine sr (jb (bG rfl) ?_);refine nt (am (ci h (fun h=>?_) (fun h=>?_)))
       ·refine sk (aJ (Z:=Unit) (α:=Int) (fun SH mc=>[(1,I a1),(2,Pt b1),(7,.eq (.pointer (some ⟨c.1,0,none⟩))),(8,.rep (.slice (.int .u8)) r2.2.1),(10,.eq l),(11,I j.2),(12,I mc),(28,I a0.1),(29,I j.2),(32,.rep (.slice (.int .u8)) r2.2.1),(33,I (r2.2.1.length:Int)),(34,I E.2)]) (fun SH mc=>[.obj b1 28 (.rep ab a0),.obj c.1 109 (.pair (.rep ab q3) (.pair (.eq (.int .i32 0)) (.pair (.eq (.int .u32 0)) (.eq (.map (some c.2)))))),.sl l 3 (.int .i64) j.1,.inv c.2 (aI k q3)]) h (fun K h=>?_) (fun SH mc h=>?_))
        ·refine ak (sr ?_);obtain⟨s,SY,h⟩:=aa h;refine jb (be (t:=(.int .u8)) rfl vS pg SY) ?_;refine ja (av (t:=(.int .u8)) rfl pg rfl) ?_;refine aq (nt (am ?_));obtain⟨u,y,h⟩:=aa h;obtain⟨Q,M,h⟩:=aa h;obtain⟨X,gw,h⟩:=aa h;refine gX (SE.fin (Γ':=[(1,I a1),(2,Pt b1),(7,.eq (.pointer (some ⟨c.1,0,none⟩))),(8,.rep (.slice (.int .u8)) r2.2.1),(10,.eq l),(11,I j.2),(12,I E.1),(28,I a0.1),(29,I j.2),(32,.rep (.slice (.int .u8)) r2.2.1),(33,I (r2.2.1.length:Int)),(34,I E.2),(14,.eq (.int .u8 s))]) (Δ':=[.obj b1 28 (.rep ab a0),.obj c.1 109 (.pair (.rep ab q3) (.pair (.eq (.int .i32 0)) (.pair (.eq (.int .u32 0)) (.eq (.map (some c.2)))))),.sl l 3 (.int .i64) j.1,.inv c.2 (aI k q3)]) [0,1,2,3] ⟨rfl,rfl,rfl,rfl,rfl,rfl,rfl,rfl,rfl,rfl,rfl,rfl,rfl,trivial⟩ rfl) ?_;refine HJ (I:=Unit) (Ge:=fun i=>[(1,I a1),(2,Pt b1),(7,.eq (.pointer (some ⟨c.1,0,none⟩))),(8,.rep (.slice (.int .u8)) r2.2.1),(10,.eq l),(11,I j.2),(12,I E.1),(28,I a0.1),(29,I j.2),(32,.rep (.slice (.int .u8)) r2.2.1),(33,I (r2.2.1.length:Int)),(34,I E.2),(47,.eq (.bool (decide (a0.2.2.1≤X))))]) (De:=fun i=>[.inv c.2 (aI k q3),.obj b1 28 (.rep ab a0),.obj c.1 109 (.pair (.rep ab q3) (.pair (.eq (.int .i32 0)) (.pair (.eq (.int .u32 0)) (.eq (.map (some c.2)))))),.sl l 3 (.int .i64) j.1]) (L:=[true,true,true,true,true,true,true,true,true,true]) eF rfl (fun J hJ hE=>?_) (by kernel_rfl) ?_
         ·obtain⟨K_,hK⟩:∃K_:Nat→List Bool→Ga→List D→Prop,K_=fun n L e d=>J n L ([(1,I a1),(2,Pt b1),(7,.eq (.pointer (some ⟨c.1,0,none⟩))),(8,.rep (.slice (.int .u8)) r2.2.1),(10,.eq l),(11,I j.2),(12,I E.1),(28,I a0.1),(29,I j.2),(32,.rep (.slice (.int .u8)) r2.2.1),(33,I (r2.2.1.length:Int)),(34,I E.2)]++e) d:=⟨_,rfl⟩
          have s511:K_ 1 [true,true,true,true,true,true,true,true,true,false] [(44,I X),(46,I a0.2.2.1)] [.inv c.2 (aI k q3),.obj b1 28 (.rep ab a0),.obj c.1 109 (.pair (.rep ab q3) (.pair (.eq (.int .i32 0)) (.pair (.eq (.int .u32 0)) (.eq (.map (some c.2)))))),.sl l 3 (.int .i64) j.1]:=by
           subst hK hJ;refine JD.step [9] (by kernel_rfl) rfl ⟨⟨_,rfl,?_⟩,trivial⟩;refine jb (i9 rfl) ?_;exact an (hE ()) [0,1,2,3]
          have s255:K_ 2 [true,true,true,true,true,true,true,true,false,false] [(44,I X),(45,.eq (.pointer (some ⟨b1,2,none⟩)))] [.inv c.2 (aI k q3),.obj b1 28 (.rep ab a0),.obj c.1 109 (.pair (.rep ab q3) (.pair (.eq (.int .i32 0)) (.pair (.eq (.int .u32 0)) (.eq (.map (some c.2)))))),.sl l 3 (.int .i64) j.1]:=by
           subst hK hJ;refine JD.step [8] (by kernel_rfl) rfl ⟨⟨_,rfl,?_⟩,trivial⟩;refine fr 1 ?_;refine lo bT ?_;exact an s511 [1,0,2,3]
          have s447:K_ 2 [true,true,true,true,true,true,false,true,true,false] [(42,.rep (.arr 5 (.int .i64)) Q),(43,I j.2),(46,I a0.2.2.1)] [.inv c.2 (aI k q3),.obj b1 28 (.rep ab a0),.obj c.1 109 (.pair (.rep ab q3) (.pair (.eq (.int .i32 0)) (.pair (.eq (.int .u32 0)) (.eq (.map (some c.2)))))),.sl l 3 (.int .i64) j.1]:=by
           subst hK hJ;refine JD.step [6] (by kernel_rfl) rfl ⟨⟨_,rfl,?_⟩,trivial⟩;refine jb (dO (t:=(.int .i64)) rfl zf bT rfl rfl (fun _=>rfl) gw) ?_;exact an s511 [0,1,2,3]
          have s127:K_ 3 [true,true,true,true,true,true,true,false,false,false] [(44,I X)] [.inv c.2 (aI k q3),.obj b1 28 (.rep ab a0),.obj c.1 109 (.pair (.rep ab q3) (.pair (.eq (.int .i32 0)) (.pair (.eq (.int .u32 0)) (.eq (.map (some c.2)))))),.sl l 3 (.int .i64) j.1]:=by
           subst hK hJ;refine JD.step [7] (by kernel_rfl) rfl ⟨⟨_,rfl,?_⟩,trivial⟩;refine fl dK ?_;exact an s255 [0,1,2,3]
          have s191:K_ 3 [true,true,true,true,true,true,false,true,false,false] [(42,.rep (.arr 5 (.int .i64)) Q),(43,I j.2),(45,.eq (.pointer (some ⟨b1,2,none⟩)))] [.inv c.2 (aI k q3),.obj b1 28 (.rep ab a0),.obj c.1 109 (.pair (.rep ab q3) (.pair (.eq (.int .i32 0)) (.pair (.eq (.int .u32 0)) (.eq (.map (some c.2)))))),.sl l 3 (.int .i64) j.1]:=by
           subst hK hJ;refine JD.step [6,8] (by kernel_rfl) rfl ⟨⟨_,rfl,?_⟩,⟨_,rfl,?_⟩,trivial⟩
           ·refine jb (dO (t:=(.int .i64)) rfl zf bT rfl rfl (fun _=>rfl) gw) ?_;exact an s255 [0,1,2,3]
           ·refine fr 1 ?_;refine lo bT ?_;exact an s447 [1,0,2,3]
          have s415:K_ 3 [true,true,true,true,true,false,false,true,true,false] [(42,.rep (.arr 5 (.int .i64)) Q),(46,I a0.2.2.1)] [.inv c.2 (aI k q3),.obj b1 28 (.rep ab a0),.obj c.1 109 (.pair (.rep ab q3) (.pair (.eq (.int .i32 0)) (.pair (.eq (.int .u32 0)) (.eq (.map (some c.2)))))),.sl l 3 (.int .i64) j.1]:=by
           subst hK hJ;refine JD.step [5] (by kernel_rfl) rfl ⟨⟨_,rfl,?_⟩,trivial⟩;refine mq ?_;exact an s447 [0,1,2,3]
          have s431:K_ 3 [true,true,true,true,false,true,false,true,true,false] [(40,.rep (.arr 7 (.arr 5 (.int .i64))) u),(41,I a1),(43,I j.2),(46,I a0.2.2.1)] [.inv c.2 (aI k q3),.obj b1 28 (.rep ab a0),.obj c.1 109 (.pair (.rep ab q3) (.pair (.eq (.int .i32 0)) (.pair (.eq (.int .u32 0)) (.eq (.map (some c.2)))))),.sl l 3 (.int .i64) j.1]:=by
           subst hK hJ;refine JD.step [4] (by kernel_rfl) rfl ⟨⟨_,rfl,?_⟩,trivial⟩;refine jb (dO (t:=(.arr 5 (.int .i64))) rfl AP gB rfl rfl (qD) M) ?_;exact an s447 [0,1,2,3]
          have s63:K_ 4 [true,true,true,true,true,true,false,false,false,false] [(42,.rep (.arr 5 (.int .i64)) Q),(43,I j.2)] [.inv c.2 (aI k q3),.obj b1 28 (.rep ab a0),.obj c.1 109 (.pair (.rep ab q3) (.pair (.eq (.int .i32 0)) (.pair (.eq (.int .u32 0)) (.eq (.map (some c.2)))))),.sl l 3 (.int .i64) j.1]:=by
           subst hK hJ;refine JD.step [6,7] (by kernel_rfl) rfl ⟨⟨_,rfl,?_⟩,⟨_,rfl,?_⟩,trivial⟩
           ·refine jb (dO (t:=(.int .i64)) rfl zf bT rfl rfl (fun _=>rfl) gw) ?_;exact an s127 [0,1,2,3]
           ·refine fl dK ?_;exact an s191 [0,1,2,3]
          have s159:K_ 4 [true,true,true,true,true,false,false,true,false,false] [(42,.rep (.arr 5 (.int .i64)) Q),(45,.eq (.pointer (some ⟨b1,2,none⟩)))] [.inv c.2 (aI k q3),.obj b1 28 (.rep ab a0),.obj c.1 109 (.pair (.rep ab q3) (.pair (.eq (.int .i32 0)) (.pair (.eq (.int .u32 0)) (.eq (.map (some c.2)))))),.sl l 3 (.int .i64) j.1]:=by
           subst hK hJ;refine JD.step [5,8] (by kernel_rfl) rfl ⟨⟨_,rfl,?_⟩,⟨_,rfl,?_⟩,trivial⟩
           ·refine mq ?_;exact an s191 [0,1,2,3]
           ·refine fr 1 ?_;refine lo bT ?_;exact an s415 [1,0,2,3]
          have s175:K_ 4 [true,true,true,true,false,true,false,true,false,false] [(40,.rep (.arr 7 (.arr 5 (.int .i64))) u),(41,I a1),(43,I j.2),(45,.eq (.pointer (some ⟨b1,2,none⟩)))] [.inv c.2 (aI k q3),.obj b1 28 (.rep ab a0),.obj c.1 109 (.pair (.rep ab q3) (.pair (.eq (.int .i32 0)) (.pair (.eq (.int .u32 0)) (.eq (.map (some c.2)))))),.sl l 3 (.int .i64) j.1]:=by
           subst hK hJ;refine JD.step [4,8] (by kernel_rfl) rfl ⟨⟨_,rfl,?_⟩,⟨_,rfl,?_⟩,trivial⟩
           ·refine jb (dO (t:=(.arr 5 (.int .i64))) rfl AP gB rfl rfl (qD) M) ?_;exact an s191 [0,1,2,3]
           ·refine fr 1 ?_;refine lo bT ?_;exact an s431 [1,0,2,3]
          have s399:K_ 4 [true,true,true,true,false,false,false,true,true,false] [(40,.rep (.arr 7 (.arr 5 (.int .i64))) u),(41,I a1),(46,I a0.2.2.1)] [.inv c.2 (aI k q3),.obj b1 28 (.rep ab a0),.obj c.1 109 (.pair (.rep ab q3) (.pair (.eq (.int .i32 0)) (.pair (.eq (.int .u32 0)) (.eq (.map (some c.2)))))),.sl l 3 (.int .i64) j.1]:=by
           subst hK hJ;refine JD.step [4,5] (by kernel_rfl) rfl ⟨⟨_,rfl,?_⟩,⟨_,rfl,?_⟩,trivial⟩
           ·refine jb (dO (t:=(.arr 5 (.int .i64))) rfl AP gB rfl rfl (qD) M) ?_;exact an s415 [0,1,2,3]
           ·refine mq ?_;exact an s431 [0,1,2,3]
          have s423:K_ 4 [true,true,true,false,false,true,false,true,true,false] [(40,.rep (.arr 7 (.arr 5 (.int .i64))) u),(43,I j.2),(46,I a0.2.2.1)] [.inv c.2 (aI k q3),.obj b1 28 (.rep ab a0),.obj c.1 109 (.pair (.rep ab q3) (.pair (.eq (.int .i32 0)) (.pair (.eq (.int .u32 0)) (.eq (.map (some c.2)))))),.sl l 3 (.int .i64) j.1]:=by
           subst hK hJ;refine JD.step [3] (by kernel_rfl) rfl ⟨⟨_,rfl,?_⟩,trivial⟩;refine mq ?_;exact an s431 [0,1,2,3]
          have s427:K_ 4 [true,true,false,true,false,true,false,true,true,false] [(38,.eq (.pointer (some ⟨c.1,0,none⟩))),(39,.eq (.int .u8 s)),(41,I a1),(43,I j.2),(46,I a0.2.2.1)] [.inv c.2 (aI k q3),.obj b1 28 (.rep ab a0),.obj c.1 109 (.pair (.rep ab q3) (.pair (.eq (.int .i32 0)) (.pair (.eq (.int .u32 0)) (.eq (.map (some c.2)))))),.sl l 3 (.int .i64) j.1]:=by
           subst hK hJ;refine JD.step [2] (by kernel_rfl) rfl ⟨⟨_,rfl,?_⟩,trivial⟩;refine fr 2 ?_;refine ay (Δ:=[_,_]) (F:=_) (fun _ _ _=>ae rfl _) rfl rfl (aK [.tmp 38,.tmp 39] rfl rfl nX rfl (eI k q3 c.1 c.2 s u y)) ⟨rfl,rfl,trivial⟩ fun _=>?_;exact an s431 [1,2,0,3]
          have s31:K_ 5 [true,true,true,true,true,false,false,false,false,false] [(42,.rep (.arr 5 (.int .i64)) Q)] [.inv c.2 (aI k q3),.obj b1 28 (.rep ab a0),.obj c.1 109 (.pair (.rep ab q3) (.pair (.eq (.int .i32 0)) (.pair (.eq (.int .u32 0)) (.eq (.map (some c.2)))))),.sl l 3 (.int .i64) j.1]:=by
           subst hK hJ;refine JD.step [5,7] (by kernel_rfl) rfl ⟨⟨_,rfl,?_⟩,⟨_,rfl,?_⟩,trivial⟩
           ·refine mq ?_;exact an s63 [0,1,2,3]
           ·refine fl dK ?_;exact an s159 [0,1,2,3]
          have s47:K_ 5 [true,true,true,true,false,true,false,false,false,false] [(40,.rep (.arr 7 (.arr 5 (.int .i64))) u),(41,I a1),(43,I j.2)] [.inv c.2 (aI k q3),.obj b1 28 (.rep ab a0),.obj c.1 109 (.pair (.rep ab q3) (.pair (.eq (.int .i32 0)) (.pair (.eq (.int .u32 0)) (.eq (.map (some c.2)))))),.sl l 3 (.int .i64) j.1]:=by
           subst hK hJ;refine JD.step [4,7] (by kernel_rfl) rfl ⟨⟨_,rfl,?_⟩,⟨_,rfl,?_⟩,trivial⟩
           ·refine jb (dO (t:=(.arr 5 (.int .i64))) rfl AP gB rfl rfl (qD) M) ?_;exact an s63 [0,1,2,3]
           ·refine fl dK ?_;exact an s175 [0,1,2,3]
          have s143:K_ 5 [true,true,true,true,false,false,false,true,false,false] [(40,.rep (.arr 7 (.arr 5 (.int .i64))) u),(41,I a1),(45,.eq (.pointer (some ⟨b1,2,none⟩)))] [.inv c.2 (aI k q3),.obj b1 28 (.rep ab a0),.obj c.1 109 (.pair (.rep ab q3) (.pair (.eq (.int .i32 0)) (.pair (.eq (.int .u32 0)) (.eq (.map (some c.2)))))),.sl l 3 (.int .i64) j.1]:=by
           subst hK hJ;refine JD.step [4,5,8] (by kernel_rfl) rfl ⟨⟨_,rfl,?_⟩,⟨_,rfl,?_⟩,⟨_,rfl,?_⟩,trivial⟩
           ·refine jb (dO (t:=(.arr 5 (.int .i64))) rfl AP gB rfl rfl (qD) M) ?_;exact an s159 [0,1,2,3]
           ·refine mq ?_;exact an s175 [0,1,2,3]
           ·refine fr 1 ?_;refine lo bT ?_;exact an s399 [1,0,2,3]
          have s167:K_ 5 [true,true,true,false,false,true,false,true,false,false] [(40,.rep (.arr 7 (.arr 5 (.int .i64))) u),(43,I j.2),(45,.eq (.pointer (some ⟨b1,2,none⟩)))] [.inv c.2 (aI k q3),.obj b1 28 (.rep ab a0),.obj c.1 109 (.pair (.rep ab q3) (.pair (.eq (.int .i32 0)) (.pair (.eq (.int .u32 0)) (.eq (.map (some c.2)))))),.sl l 3 (.int .i64) j.1]:=by
           subst hK hJ;refine JD.step [3,8] (by kernel_rfl) rfl ⟨⟨_,rfl,?_⟩,⟨_,rfl,?_⟩,trivial⟩
           ·refine mq ?_;exact an s175 [0,1,2,3]
           ·refine fr 1 ?_;refine lo bT ?_;exact an s423 [1,0,2,3]
          have s391:K_ 5 [true,true,true,false,false,false,false,true,true,false] [(40,.rep (.arr 7 (.arr 5 (.int .i64))) u),(46,I a0.2.2.1)] [.inv c.2 (aI k q3),.obj b1 28 (.rep ab a0),.obj c.1 109 (.pair (.rep ab q3) (.pair (.eq (.int .i32 0)) (.pair (.eq (.int .u32 0)) (.eq (.map (some c.2)))))),.sl l 3 (.int .i64) j.1]:=by
           subst hK hJ;refine JD.step [3,5] (by kernel_rfl) rfl ⟨⟨_,rfl,?_⟩,⟨_,rfl,?_⟩,trivial⟩
           ·refine mq ?_;exact an s399 [0,1,2,3]
           ·refine mq ?_;exact an s423 [0,1,2,3]
          have s171:K_ 5 [true,true,false,true,false,true,false,true,false,false] [(38,.eq (.pointer (some ⟨c.1,0,none⟩))),(39,.eq (.int .u8 s)),(41,I a1),(43,I j.2),(45,.eq (.pointer (some ⟨b1,2,none⟩)))] [.inv c.2 (aI k q3),.obj b1 28 (.rep ab a0),.obj c.1 109 (.pair (.rep ab q3) (.pair (.eq (.int .i32 0)) (.pair (.eq (.int .u32 0)) (.eq (.map (some c.2)))))),.sl l 3 (.int .i64) j.1]:=by
           subst hK hJ;refine JD.step [2,8] (by kernel_rfl) rfl ⟨⟨_,rfl,?_⟩,⟨_,rfl,?_⟩,trivial⟩
           ·refine fr 2 ?_;refine ay (Δ:=[_,_]) (F:=_) (fun _ _ _=>ae rfl _) rfl rfl (aK [.tmp 38,.tmp 39] rfl rfl nX rfl (eI k q3 c.1 c.2 s u y)) ⟨rfl,rfl,trivial⟩ fun _=>?_;exact an s175 [1,2,0,3]
           ·refine fr 1 ?_;refine lo bT ?_;exact an s427 [1,0,2,3]
          have s395:K_ 5 [true,true,false,true,false,false,false,true,true,false] [(38,.eq (.pointer (some ⟨c.1,0,none⟩))),(39,.eq (.int .u8 s)),(41,I a1),(46,I a0.2.2.1)] [.inv c.2 (aI k q3),.obj b1 28 (.rep ab a0),.obj c.1 109 (.pair (.rep ab q3) (.pair (.eq (.int .i32 0)) (.pair (.eq (.int .u32 0)) (.eq (.map (some c.2)))))),.sl l 3 (.int .i64) j.1]:=by
           subst hK hJ;refine JD.step [2,5] (by kernel_rfl) rfl ⟨⟨_,rfl,?_⟩,⟨_,rfl,?_⟩,trivial⟩
           ·refine fr 2 ?_;refine ay (Δ:=[_,_]) (F:=_) (fun _ _ _=>ae rfl _) rfl rfl (aK [.tmp 38,.tmp 39] rfl rfl nX rfl (eI k q3 c.1 c.2 s u y)) ⟨rfl,rfl,trivial⟩ fun _=>?_;exact an s399 [1,2,0,3]
           ·refine mq ?_;exact an s427 [0,1,2,3]
          have s419:K_ 5 [true,true,false,false,false,true,false,true,true,false] [(38,.eq (.pointer (some ⟨c.1,0,none⟩))),(39,.eq (.int .u8 s)),(43,I j.2),(46,I a0.2.2.1)] [.inv c.2 (aI k q3),.obj b1 28 (.rep ab a0),.obj c.1 109 (.pair (.rep ab q3) (.pair (.eq (.int .i32 0)) (.pair (.eq (.int .u32 0)) (.eq (.map (some c.2)))))),.sl l 3 (.int .i64) j.1]:=by
           subst hK hJ;refine JD.step [2,3] (by kernel_rfl) rfl ⟨⟨_,rfl,?_⟩,⟨_,rfl,?_⟩,trivial⟩
           ·refine fr 2 ?_;refine ay (Δ:=[_,_]) (F:=_) (fun _ _ _=>ae rfl _) rfl rfl (aK [.tmp 38,.tmp 39] rfl rfl nX rfl (eI k q3 c.1 c.2 s u y)) ⟨rfl,rfl,trivial⟩ fun _=>?_;exact an s423 [1,2,0,3]
           ·refine mq ?_;exact an s427 [0,1,2,3]
          have s425:K_ 5 [true,false,false,true,false,true,false,true,true,false] [(14,.eq (.int .u8 s)),(38,.eq (.pointer (some ⟨c.1,0,none⟩))),(41,I a1),(43,I j.2),(46,I a0.2.2.1)] [.inv c.2 (aI k q3),.obj b1 28 (.rep ab a0),.obj c.1 109 (.pair (.rep ab q3) (.pair (.eq (.int .i32 0)) (.pair (.eq (.int .u32 0)) (.eq (.map (some c.2)))))),.sl l 3 (.int .i64) j.1]:=by
           subst hK hJ;refine JD.step [1] (by kernel_rfl) rfl ⟨⟨_,rfl,?_⟩,trivial⟩;refine mq ?_;exact an s427 [0,1,2,3]
          have s426:K_ 5 [false,true,false,true,false,true,false,true,true,false] [(39,.eq (.int .u8 s)),(41,I a1),(43,I j.2),(46,I a0.2.2.1)] [.inv c.2 (aI k q3),.obj b1 28 (.rep ab a0),.obj c.1 109 (.pair (.rep ab q3) (.pair (.eq (.int .i32 0)) (.pair (.eq (.int .u32 0)) (.eq (.map (some c.2)))))),.sl l 3 (.int .i64) j.1]:=by
           subst hK hJ;refine JD.step [0] (by kernel_rfl) rfl ⟨⟨_,rfl,?_⟩,trivial⟩;refine mq ?_;exact an s427 [0,1,2,3]
          have s15:K_ 6 [true,true,true,true,false,false,false,false,false,false] [(40,.rep (.arr 7 (.arr 5 (.int .i64))) u),(41,I a1)] [.inv c.2 (aI k q3),.obj b1 28 (.rep ab a0),.obj c.1 109 (.pair (.rep ab q3) (.pair (.eq (.int .i32 0)) (.pair (.eq (.int .u32 0)) (.eq (.map (some c.2)))))),.sl l 3 (.int .i64) j.1]:=by
           subst hK hJ;refine JD.step [4,5,7] (by kernel_rfl) rfl ⟨⟨_,rfl,?_⟩,⟨_,rfl,?_⟩,⟨_,rfl,?_⟩,trivial⟩
           ·refine jb (dO (t:=(.arr 5 (.int .i64))) rfl AP gB rfl rfl (qD) M) ?_;exact an s31 [0,1,2,3]
           ·refine mq ?_;exact an s47 [0,1,2,3]
           ·refine fl dK ?_;exact an s143 [0,1,2,3]
          have s39:K_ 6 [true,true,true,false,false,true,false,false,false,false] [(40,.rep (.arr 7 (.arr 5 (.int .i64))) u),(43,I j.2)] [.inv c.2 (aI k q3),.obj b1 28 (.rep ab a0),.obj c.1 109 (.pair (.rep ab q3) (.pair (.eq (.int .i32 0)) (.pair (.eq (.int .u32 0)) (.eq (.map (some c.2)))))),.sl l 3 (.int .i64) j.1]:=by
           subst hK hJ;refine JD.step [3,7] (by kernel_rfl) rfl ⟨⟨_,rfl,?_⟩,⟨_,rfl,?_⟩,trivial⟩
           ·refine mq ?_;exact an s47 [0,1,2,3]
           ·refine fl dK ?_;exact an s167 [0,1,2,3]
          have s135:K_ 6 [true,true,true,false,false,false,false,true,false,false] [(40,.rep (.arr 7 (.arr 5 (.int .i64))) u),(45,.eq (.pointer (some ⟨b1,2,none⟩)))] [.inv c.2 (aI k q3),.obj b1 28 (.rep ab a0),.obj c.1 109 (.pair (.rep ab q3) (.pair (.eq (.int .i32 0)) (.pair (.eq (.int .u32 0)) (.eq (.map (some c.2)))))),.sl l 3 (.int .i64) j.1]:=by
           subst hK hJ;refine JD.step [3,5,8] (by kernel_rfl) rfl ⟨⟨_,rfl,?_⟩,⟨_,rfl,?_⟩,⟨_,rfl,?_⟩,trivial⟩
           ·refine mq ?_;exact an s143 [0,1,2,3]
           ·refine mq ?_;exact an s167 [0,1,2,3]
           ·refine fr 1 ?_;refine lo bT ?_;exact an s391 [1,0,2,3]
          have s43:K_ 6 [true,true,false,true,false,true,false,false,false,false] [(38,.eq (.pointer (some ⟨c.1,0,none⟩))),(39,.eq (.int .u8 s)),(41,I a1),(43,I j.2)] [.inv c.2 (aI k q3),.obj b1 28 (.rep ab a0),.obj c.1 109 (.pair (.rep ab q3) (.pair (.eq (.int .i32 0)) (.pair (.eq (.int .u32 0)) (.eq (.map (some c.2)))))),.sl l 3 (.int .i64) j.1]:=by
           subst hK hJ;refine JD.step [2,7] (by kernel_rfl) rfl ⟨⟨_,rfl,?_⟩,⟨_,rfl,?_⟩,trivial⟩
           ·refine fr 2 ?_;refine ay (Δ:=[_,_]) (F:=_) (fun _ _ _=>ae rfl _) rfl rfl (aK [.tmp 38,.tmp 39] rfl rfl nX rfl (eI k q3 c.1 c.2 s u y)) ⟨rfl,rfl,trivial⟩ fun _=>?_;exact an s47 [1,2,0,3]
           ·refine fl dK ?_;exact an s171 [0,1,2,3]
          have s139:K_ 6 [true,true,false,true,false,false,false,true,false,false] [(38,.eq (.pointer (some ⟨c.1,0,none⟩))),(39,.eq (.int .u8 s)),(41,I a1),(45,.eq (.pointer (some ⟨b1,2,none⟩)))] [.inv c.2 (aI k q3),.obj b1 28 (.rep ab a0),.obj c.1 109 (.pair (.rep ab q3) (.pair (.eq (.int .i32 0)) (.pair (.eq (.int .u32 0)) (.eq (.map (some c.2)))))),.sl l 3 (.int .i64) j.1]:=by
           subst hK hJ;refine JD.step [2,5,8] (by kernel_rfl) rfl ⟨⟨_,rfl,?_⟩,⟨_,rfl,?_⟩,⟨_,rfl,?_⟩,trivial⟩
           ·refine fr 2 ?_;refine ay (Δ:=[_,_]) (F:=_) (fun _ _ _=>ae rfl _) rfl rfl (aK [.tmp 38,.tmp 39] rfl rfl nX rfl (eI k q3 c.1 c.2 s u y)) ⟨rfl,rfl,trivial⟩ fun _=>?_;exact an s143 [1,2,0,3]
           ·refine mq ?_;exact an s171 [0,1,2,3]
           ·refine fr 1 ?_;refine lo bT ?_;exact an s395 [1,0,2,3]
          have s163:K_ 6 [true,true,false,false,false,true,false,true,false,false] [(38,.eq (.pointer (some ⟨c.1,0,none⟩))),(39,.eq (.int .u8 s)),(43,I j.2),(45,.eq (.pointer (some ⟨b1,2,none⟩)))] [.inv c.2 (aI k q3),.obj b1 28 (.rep ab a0),.obj c.1 109 (.pair (.rep ab q3) (.pair (.eq (.int .i32 0)) (.pair (.eq (.int .u32 0)) (.eq (.map (some c.2)))))),.sl l 3 (.int .i64) j.1]:=by
           subst hK hJ;refine JD.step [2,3,8] (by kernel_rfl) rfl ⟨⟨_,rfl,?_⟩,⟨_,rfl,?_⟩,⟨_,rfl,?_⟩,trivial⟩
           ·refine fr 2 ?_;refine ay (Δ:=[_,_]) (F:=_) (fun _ _ _=>ae rfl _) rfl rfl (aK [.tmp 38,.tmp 39] rfl rfl nX rfl (eI k q3 c.1 c.2 s u y)) ⟨rfl,rfl,trivial⟩ fun _=>?_;exact an s167 [1,2,0,3]
           ·refine mq ?_;exact an s171 [0,1,2,3]
           ·refine fr 1 ?_;refine lo bT ?_;exact an s419 [1,0,2,3]
          have s387:K_ 6 [true,true,false,false,false,false,false,true,true,false] [(38,.eq (.pointer (some ⟨c.1,0,none⟩))),(39,.eq (.int .u8 s)),(46,I a0.2.2.1)] [.inv c.2 (aI k q3),.obj b1 28 (.rep ab a0),.obj c.1 109 (.pair (.rep ab q3) (.pair (.eq (.int .i32 0)) (.pair (.eq (.int .u32 0)) (.eq (.map (some c.2)))))),.sl l 3 (.int .i64) j.1]:=by
           subst hK hJ;refine JD.step [2,3,5] (by kernel_rfl) rfl ⟨⟨_,rfl,?_⟩,⟨_,rfl,?_⟩,⟨_,rfl,?_⟩,trivial⟩
           ·refine fr 2 ?_;refine ay (Δ:=[_,_]) (F:=_) (fun _ _ _=>ae rfl _) rfl rfl (aK [.tmp 38,.tmp 39] rfl rfl nX rfl (eI k q3 c.1 c.2 s u y)) ⟨rfl,rfl,trivial⟩ fun _=>?_;exact an s391 [1,2,0,3]
           ·refine mq ?_;exact an s395 [0,1,2,3]
           ·refine mq ?_;exact an s419 [0,1,2,3]
          have s169:K_ 6 [true,false,false,true,false,true,false,true,false,false] [(14,.eq (.int .u8 s)),(38,.eq (.pointer (some ⟨c.1,0,none⟩))),(41,I a1),(43,I j.2),(45,.eq (.pointer (some ⟨b1,2,none⟩)))] [.inv c.2 (aI k q3),.obj b1 28 (.rep ab a0),.obj c.1 109 (.pair (.rep ab q3) (.pair (.eq (.int .i32 0)) (.pair (.eq (.int .u32 0)) (.eq (.map (some c.2)))))),.sl l 3 (.int .i64) j.1]:=by
           subst hK hJ;refine JD.step [1,8] (by kernel_rfl) rfl ⟨⟨_,rfl,?_⟩,⟨_,rfl,?_⟩,trivial⟩
           ·refine mq ?_;exact an s171 [0,1,2,3]
           ·refine fr 1 ?_;refine lo bT ?_;exact an s425 [1,0,2,3]
          have s393:K_ 6 [true,false,false,true,false,false,false,true,true,false] [(14,.eq (.int .u8 s)),(38,.eq (.pointer (some ⟨c.1,0,none⟩))),(41,I a1),(46,I a0.2.2.1)] [.inv c.2 (aI k q3),.obj b1 28 (.rep ab a0),.obj c.1 109 (.pair (.rep ab q3) (.pair (.eq (.int .i32 0)) (.pair (.eq (.int .u32 0)) (.eq (.map (some c.2)))))),.sl l 3 (.int .i64) j.1]:=by
           subst hK hJ;refine JD.step [1,5] (by kernel_rfl) rfl ⟨⟨_,rfl,?_⟩,⟨_,rfl,?_⟩,trivial⟩
           ·refine mq ?_;exact an s395 [0,1,2,3]
           ·refine mq ?_;exact an s425 [0,1,2,3]
          have s417:K_ 6 [true,false,false,false,false,true,false,true,true,false] [(14,.eq (.int .u8 s)),(38,.eq (.pointer (some ⟨c.1,0,none⟩))),(43,I j.2),(46,I a0.2.2.1)] [.inv c.2 (aI k q3),.obj b1 28 (.rep ab a0),.obj c.1 109 (.pair (.rep ab q3) (.pair (.eq (.int .i32 0)) (.pair (.eq (.int .u32 0)) (.eq (.map (some c.2)))))),.sl l 3 (.int .i64) j.1]:=by
           subst hK hJ;refine JD.step [1,3] (by kernel_rfl) rfl ⟨⟨_,rfl,?_⟩,⟨_,rfl,?_⟩,trivial⟩
           ·refine mq ?_;exact an s419 [0,1,2,3]
           ·refine mq ?_;exact an s425 [0,1,2,3]
          have s170:K_ 6 [false,true,false,true,false,true,false,true,false,false] [(39,.eq (.int .u8 s)),(41,I a1),(43,I j.2),(45,.eq (.pointer (some ⟨b1,2,none⟩)))] [.inv c.2 (aI k q3),.obj b1 28 (.rep ab a0),.obj c.1 109 (.pair (.rep ab q3) (.pair (.eq (.int .i32 0)) (.pair (.eq (.int .u32 0)) (.eq (.map (some c.2)))))),.sl l 3 (.int .i64) j.1]:=by
           subst hK hJ;refine JD.step [0,8] (by kernel_rfl) rfl ⟨⟨_,rfl,?_⟩,⟨_,rfl,?_⟩,trivial⟩
           ·refine mq ?_;exact an s171 [0,1,2,3]
           ·refine fr 1 ?_;refine lo bT ?_;exact an s426 [1,0,2,3]
          have s394:K_ 6 [false,true,false,true,false,false,false,true,true,false] [(39,.eq (.int .u8 s)),(41,I a1),(46,I a0.2.2.1)] [.inv c.2 (aI k q3),.obj b1 28 (.rep ab a0),.obj c.1 109 (.pair (.rep ab q3) (.pair (.eq (.int .i32 0)) (.pair (.eq (.int .u32 0)) (.eq (.map (some c.2)))))),.sl l 3 (.int .i64) j.1]:=by
           subst hK hJ;refine JD.step [0,5] (by kernel_rfl) rfl ⟨⟨_,rfl,?_⟩,⟨_,rfl,?_⟩,trivial⟩
           ·refine mq ?_;exact an s395 [0,1,2,3]
           ·refine mq ?_;exact an s426 [0,1,2,3]
          have s418:K_ 6 [false,true,false,false,false,true,false,true,true,false] [(39,.eq (.int .u8 s)),(43,I j.2),(46,I a0.2.2.1)] [.inv c.2 (aI k q3),.obj b1 28 (.rep ab a0),.obj c.1 109 (.pair (.rep ab q3) (.pair (.eq (.int .i32 0)) (.pair (.eq (.int .u32 0)) (.eq (.map (some c.2)))))),.sl l 3 (.int .i64) j.1]:=by
           subst hK hJ;refine JD.step [0,3] (by kernel_rfl) rfl ⟨⟨_,rfl,?_⟩,⟨_,rfl,?_⟩,trivial⟩
           ·refine mq ?_;exact an s419 [0,1,2,3]
           ·refine mq ?_;exact an s426 [0,1,2,3]
          have s424:K_ 6 [false,false,false,true,false,true,false,true,true,false] [(14,.eq (.int .u8 s)),(41,I a1),(43,I j.2),(46,I a0.2.2.1)] [.inv c.2 (aI k q3),.obj b1 28 (.rep ab a0),.obj c.1 109 (.pair (.rep ab q3) (.pair (.eq (.int .i32 0)) (.pair (.eq (.int .u32 0)) (.eq (.map (some c.2)))))),.sl l 3 (.int .i64) j.1]:=by
           subst hK hJ;refine JD.step [0,1] (by kernel_rfl) rfl ⟨⟨_,rfl,?_⟩,⟨_,rfl,?_⟩,trivial⟩
           ·refine mq ?_;exact an s425 [0,1,2,3]
           ·refine mq ?_;exact an s426 [0,1,2,3]
          have s7:K_ 7 [true,true,true,false,false,false,false,false,false,false] [(40,.rep (.arr 7 (.arr 5 (.int .i64))) u)] [.inv c.2 (aI k q3),.obj b1 28 (.rep ab a0),.obj c.1 109 (.pair (.rep ab q3) (.pair (.eq (.int .i32 0)) (.pair (.eq (.int .u32 0)) (.eq (.map (some c.2)))))),.sl l 3 (.int .i64) j.1]:=by
           subst hK hJ;refine JD.step [3,5,7] (by kernel_rfl) rfl ⟨⟨_,rfl,?_⟩,⟨_,rfl,?_⟩,⟨_,rfl,?_⟩,trivial⟩
           ·refine mq ?_;exact an s15 [0,1,2,3]
           ·refine mq ?_;exact an s39 [0,1,2,3]
           ·refine fl dK ?_;exact an s135 [0,1,2,3]
          have s11:K_ 7 [true,true,false,true,false,false,false,false,false,false] [(38,.eq (.pointer (some ⟨c.1,0,none⟩))),(39,.eq (.int .u8 s)),(41,I a1)] [.inv c.2 (aI k q3),.obj b1 28 (.rep ab a0),.obj c.1 109 (.pair (.rep ab q3) (.pair (.eq (.int .i32 0)) (.pair (.eq (.int .u32 0)) (.eq (.map (some c.2)))))),.sl l 3 (.int .i64) j.1]:=by
           subst hK hJ;refine JD.step [2,5,7] (by kernel_rfl) rfl ⟨⟨_,rfl,?_⟩,⟨_,rfl,?_⟩,⟨_,rfl,?_⟩,trivial⟩
           ·refine fr 2 ?_;refine ay (Δ:=[_,_]) (F:=_) (fun _ _ _=>ae rfl _) rfl rfl (aK [.tmp 38,.tmp 39] rfl rfl nX rfl (eI k q3 c.1 c.2 s u y)) ⟨rfl,rfl,trivial⟩ fun _=>?_;exact an s15 [1,2,0,3]
           ·refine mq ?_;exact an s43 [0,1,2,3]
           ·refine fl dK ?_;exact an s139 [0,1,2,3]
          have s35:K_ 7 [true,true,false,false,false,true,false,false,false,false] [(38,.eq (.pointer (some ⟨c.1,0,none⟩))),(39,.eq (.int .u8 s)),(43,I j.2)] [.inv c.2 (aI k q3),.obj b1 28 (.rep ab a0),.obj c.1 109 (.pair (.rep ab q3) (.pair (.eq (.int .i32 0)) (.pair (.eq (.int .u32 0)) (.eq (.map (some c.2)))))),.sl l 3 (.int .i64) j.1]:=by
           subst hK hJ;refine JD.step [2,3,7] (by kernel_rfl) rfl ⟨⟨_,rfl,?_⟩,⟨_,rfl,?_⟩,⟨_,rfl,?_⟩,trivial⟩
           ·refine fr 2 ?_;refine ay (Δ:=[_,_]) (F:=_) (fun _ _ _=>ae rfl _) rfl rfl (aK [.tmp 38,.tmp 39] rfl rfl nX rfl (eI k q3 c.1 c.2 s u y)) ⟨rfl,rfl,trivial⟩ fun _=>?_;exact an s39 [1,2,0,3]
           ·refine mq ?_;exact an s43 [0,1,2,3]
           ·refine fl dK ?_;exact an s163 [0,1,2,3]
          have s131:K_ 7 [true,true,false,false,false,false,false,true,false,false] [(38,.eq (.pointer (some ⟨c.1,0,none⟩))),(39,.eq (.int .u8 s)),(45,.eq (.pointer (some ⟨b1,2,none⟩)))] [.inv c.2 (aI k q3),.obj b1 28 (.rep ab a0),.obj c.1 109 (.pair (.rep ab q3) (.pair (.eq (.int .i32 0)) (.pair (.eq (.int .u32 0)) (.eq (.map (some c.2)))))),.sl l 3 (.int .i64) j.1]:=by
           subst hK hJ;refine JD.step [2,3,5,8] (by kernel_rfl) rfl ⟨⟨_,rfl,?_⟩,⟨_,rfl,?_⟩,⟨_,rfl,?_⟩,⟨_,rfl,?_⟩,trivial⟩
           ·refine fr 2 ?_;refine ay (Δ:=[_,_]) (F:=_) (fun _ _ _=>ae rfl _) rfl rfl (aK [.tmp 38,.tmp 39] rfl rfl nX rfl (eI k q3 c.1 c.2 s u y)) ⟨rfl,rfl,trivial⟩ fun _=>?_;exact an s135 [1,2,0,3]
           ·refine mq ?_;exact an s139 [0,1,2,3]
           ·refine mq ?_;exact an s163 [0,1,2,3]
           ·refine fr 1 ?_;refine lo bT ?_;exact an s387 [1,0,2,3]
          have s41:K_ 7 [true,false,false,true,false,true,false,false,false,false] [(14,.eq (.int .u8 s)),(38,.eq (.pointer (some ⟨c.1,0,none⟩))),(41,I a1),(43,I j.2)] [.inv c.2 (aI k q3),.obj b1 28 (.rep ab a0),.obj c.1 109 (.pair (.rep ab q3) (.pair (.eq (.int .i32 0)) (.pair (.eq (.int .u32 0)) (.eq (.map (some c.2)))))),.sl l 3 (.int .i64) j.1]:=by
           subst hK hJ;refine JD.step [1,7] (by kernel_rfl) rfl ⟨⟨_,rfl,?_⟩,⟨_,rfl,?_⟩,trivial⟩
           ·refine mq ?_;exact an s43 [0,1,2,3]
           ·refine fl dK ?_;exact an s169 [0,1,2,3]
          have s137:K_ 7 [true,false,false,true,false,false,false,true,false,false] [(14,.eq (.int .u8 s)),(38,.eq (.pointer (some ⟨c.1,0,none⟩))),(41,I a1),(45,.eq (.pointer (some ⟨b1,2,none⟩)))] [.inv c.2 (aI k q3),.obj b1 28 (.rep ab a0),.obj c.1 109 (.pair (.rep ab q3) (.pair (.eq (.int .i32 0)) (.pair (.eq (.int .u32 0)) (.eq (.map (some c.2)))))),.sl l 3 (.int .i64) j.1]:=by
           subst hK hJ;refine JD.step [1,5,8] (by kernel_rfl) rfl ⟨⟨_,rfl,?_⟩,⟨_,rfl,?_⟩,⟨_,rfl,?_⟩,trivial⟩
           ·refine mq ?_;exact an s139 [0,1,2,3]
           ·refine mq ?_;exact an s169 [0,1,2,3]
           ·refine fr 1 ?_;refine lo bT ?_;exact an s393 [1,0,2,3]
          have s161:K_ 7 [true,false,false,false,false,true,false,true,false,false] [(14,.eq (.int .u8 s)),(38,.eq (.pointer (some ⟨c.1,0,none⟩))),(43,I j.2),(45,.eq (.pointer (some ⟨b1,2,none⟩)))] [.inv c.2 (aI k q3),.obj b1 28 (.rep ab a0),.obj c.1 109 (.pair (.rep ab q3) (.pair (.eq (.int .i32 0)) (.pair (.eq (.int .u32 0)) (.eq (.map (some c.2)))))),.sl l 3 (.int .i64) j.1]:=by
           subst hK hJ;refine JD.step [1,3,8] (by kernel_rfl) rfl ⟨⟨_,rfl,?_⟩,⟨_,rfl,?_⟩,⟨_,rfl,?_⟩,trivial⟩
           ·refine mq ?_;exact an s163 [0,1,2,3]
           ·refine mq ?_;exact an s169 [0,1,2,3]
           ·refine fr 1 ?_;refine lo bT ?_;exact an s417 [1,0,2,3]
          have s385:K_ 7 [true,false,false,false,false,false,false,true,true,false] [(14,.eq (.int .u8 s)),(38,.eq (.pointer (some ⟨c.1,0,none⟩))),(46,I a0.2.2.1)] [.inv c.2 (aI k q3),.obj b1 28 (.rep ab a0),.obj c.1 109 (.pair (.rep ab q3) (.pair (.eq (.int .i32 0)) (.pair (.eq (.int .u32 0)) (.eq (.map (some c.2)))))),.sl l 3 (.int .i64) j.1]:=by
           subst hK hJ;refine JD.step [1,3,5] (by kernel_rfl) rfl ⟨⟨_,rfl,?_⟩,⟨_,rfl,?_⟩,⟨_,rfl,?_⟩,trivial⟩
           ·refine mq ?_;exact an s387 [0,1,2,3]
           ·refine mq ?_;exact an s393 [0,1,2,3]
           ·refine mq ?_;exact an s417 [0,1,2,3]
          have s42:K_ 7 [false,true,false,true,false,true,false,false,false,false] [(39,.eq (.int .u8 s)),(41,I a1),(43,I j.2)] [.inv c.2 (aI k q3),.obj b1 28 (.rep ab a0),.obj c.1 109 (.pair (.rep ab q3) (.pair (.eq (.int .i32 0)) (.pair (.eq (.int .u32 0)) (.eq (.map (some c.2)))))),.sl l 3 (.int .i64) j.1]:=by
           subst hK hJ;refine JD.step [0,7] (by kernel_rfl) rfl ⟨⟨_,rfl,?_⟩,⟨_,rfl,?_⟩,trivial⟩
           ·refine mq ?_;exact an s43 [0,1,2,3]
           ·refine fl dK ?_;exact an s170 [0,1,2,3]
          have s138:K_ 7 [false,true,false,true,false,false,false,true,false,false] [(39,.eq (.int .u8 s)),(41,I a1),(45,.eq (.pointer (some ⟨b1,2,none⟩)))] [.inv c.2 (aI k q3),.obj b1 28 (.rep ab a0),.obj c.1 109 (.pair (.rep ab q3) (.pair (.eq (.int .i32 0)) (.pair (.eq (.int .u32 0)) (.eq (.map (some c.2)))))),.sl l 3 (.int .i64) j.1]:=by
           subst hK hJ;refine JD.step [0,5,8] (by kernel_rfl) rfl ⟨⟨_,rfl,?_⟩,⟨_,rfl,?_⟩,⟨_,rfl,?_⟩,trivial⟩
           ·refine mq ?_;exact an s139 [0,1,2,3]
           ·refine mq ?_;exact an s170 [0,1,2,3]
           ·refine fr 1 ?_;refine lo bT ?_;exact an s394 [1,0,2,3]
          have s162:K_ 7 [false,true,false,false,false,true,false,true,false,false] [(39,.eq (.int .u8 s)),(43,I j.2),(45,.eq (.pointer (some ⟨b1,2,none⟩)))] [.inv c.2 (aI k q3),.obj b1 28 (.rep ab a0),.obj c.1 109 (.pair (.rep ab q3) (.pair (.eq (.int .i32 0)) (.pair (.eq (.int .u32 0)) (.eq (.map (some c.2)))))),.sl l 3 (.int .i64) j.1]:=by
           subst hK hJ;refine JD.step [0,3,8] (by kernel_rfl) rfl ⟨⟨_,rfl,?_⟩,⟨_,rfl,?_⟩,⟨_,rfl,?_⟩,trivial⟩
           ·refine mq ?_;exact an s163 [0,1,2,3]
           ·refine mq ?_;exact an s170 [0,1,2,3]
           ·refine fr 1 ?_;refine lo bT ?_;exact an s418 [1,0,2,3]
          have s386:K_ 7 [false,true,false,false,false,false,false,true,true,false] [(39,.eq (.int .u8 s)),(46,I a0.2.2.1)] [.inv c.2 (aI k q3),.obj b1 28 (.rep ab a0),.obj c.1 109 (.pair (.rep ab q3) (.pair (.eq (.int .i32 0)) (.pair (.eq (.int .u32 0)) (.eq (.map (some c.2)))))),.sl l 3 (.int .i64) j.1]:=by
           subst hK hJ;refine JD.step [0,3,5] (by kernel_rfl) rfl ⟨⟨_,rfl,?_⟩,⟨_,rfl,?_⟩,⟨_,rfl,?_⟩,trivial⟩
           ·refine mq ?_;exact an s387 [0,1,2,3]
           ·refine mq ?_;exact an s394 [0,1,2,3]
           ·refine mq ?_;exact an s418 [0,1,2,3]
          have s168:K_ 7 [false,false,false,true,false,true,false,true,false,false] [(14,.eq (.int .u8 s)),(41,I a1),(43,I j.2),(45,.eq (.pointer (some ⟨b1,2,none⟩)))] [.inv c.2 (aI k q3),.obj b1 28 (.rep ab a0),.obj c.1 109 (.pair (.rep ab q3) (.pair (.eq (.int .i32 0)) (.pair (.eq (.int .u32 0)) (.eq (.map (some c.2)))))),.sl l 3 (.int .i64) j.1]:=by
           subst hK hJ;refine JD.step [0,1,8] (by kernel_rfl) rfl ⟨⟨_,rfl,?_⟩,⟨_,rfl,?_⟩,⟨_,rfl,?_⟩,trivial⟩
           ·refine mq ?_;exact an s169 [0,1,2,3]
           ·refine mq ?_;exact an s170 [0,1,2,3]
           ·refine fr 1 ?_;refine lo bT ?_;exact an s424 [1,0,2,3]
          have s392:K_ 7 [false,false,false,true,false,false,false,true,true,false] [(14,.eq (.int .u8 s)),(41,I a1),(46,I a0.2.2.1)] [.inv c.2 (aI k q3),.obj b1 28 (.rep ab a0),.obj c.1 109 (.pair (.rep ab q3) (.pair (.eq (.int .i32 0)) (.pair (.eq (.int .u32 0)) (.eq (.map (some c.2)))))),.sl l 3 (.int .i64) j.1]:=by
           subst hK hJ;refine JD.step [0,1,5] (by kernel_rfl) rfl ⟨⟨_,rfl,?_⟩,⟨_,rfl,?_⟩,⟨_,rfl,?_⟩,trivial⟩
           ·refine mq ?_;exact an s393 [0,1,2,3]
           ·refine mq ?_;exact an s394 [0,1,2,3]
           ·refine mq ?_;exact an s424 [0,1,2,3]
          have s416:K_ 7 [false,false,false,false,false,true,false,true,true,false] [(14,.eq (.int .u8 s)),(43,I j.2),(46,I a0.2.2.1)] [.inv c.2 (aI k q3),.obj b1 28 (.rep ab a0),.obj c.1 109 (.pair (.rep ab q3) (.pair (.eq (.int .i32 0)) (.pair (.eq (.int .u32 0)) (.eq (.map (some c.2)))))),.sl l 3 (.int .i64) j.1]:=by
           subst hK hJ;refine JD.step [0,1,3] (by kernel_rfl) rfl ⟨⟨_,rfl,?_⟩,⟨_,rfl,?_⟩,⟨_,rfl,?_⟩,trivial⟩
           ·refine mq ?_;exact an s417 [0,1,2,3]
           ·refine mq ?_;exact an s418 [0,1,2,3]
           ·refine mq ?_;exact an s424 [0,1,2,3]
          have s3:K_ 8 [true,true,false,false,false,false,false,false,false,false] [(38,.eq (.pointer (some ⟨c.1,0,none⟩))),(39,.eq (.int .u8 s))] [.inv c.2 (aI k q3),.obj b1 28 (.rep ab a0),.obj c.1 109 (.pair (.rep ab q3) (.pair (.eq (.int .i32 0)) (.pair (.eq (.int .u32 0)) (.eq (.map (some c.2)))))),.sl l 3 (.int .i64) j.1]:=by
           subst hK hJ;refine JD.step [2,3,5,7] (by kernel_rfl) rfl ⟨⟨_,rfl,?_⟩,⟨_,rfl,?_⟩,⟨_,rfl,?_⟩,⟨_,rfl,?_⟩,trivial⟩
           ·refine fr 2 ?_;refine ay (Δ:=[_,_]) (F:=_) (fun _ _ _=>ae rfl _) rfl rfl (aK [.tmp 38,.tmp 39] rfl rfl nX rfl (eI k q3 c.1 c.2 s u y)) ⟨rfl,rfl,trivial⟩ fun _=>?_;exact an s7 [1,2,0,3]
           ·refine mq ?_;exact an s11 [0,1,2,3]
           ·refine mq ?_;exact an s35 [0,1,2,3]
           ·refine fl dK ?_;exact an s131 [0,1,2,3]
          have s9:K_ 8 [true,false,false,true,false,false,false,false,false,false] [(14,.eq (.int .u8 s)),(38,.eq (.pointer (some ⟨c.1,0,none⟩))),(41,I a1)] [.inv c.2 (aI k q3),.obj b1 28 (.rep ab a0),.obj c.1 109 (.pair (.rep ab q3) (.pair (.eq (.int .i32 0)) (.pair (.eq (.int .u32 0)) (.eq (.map (some c.2)))))),.sl l 3 (.int .i64) j.1]:=by
           subst hK hJ;refine JD.step [1,5,7] (by kernel_rfl) rfl ⟨⟨_,rfl,?_⟩,⟨_,rfl,?_⟩,⟨_,rfl,?_⟩,trivial⟩
           ·refine mq ?_;exact an s11 [0,1,2,3]
           ·refine mq ?_;exact an s41 [0,1,2,3]
           ·refine fl dK ?_;exact an s137 [0,1,2,3]
          have s33:K_ 8 [true,false,false,false,false,true,false,false,false,false] [(14,.eq (.int .u8 s)),(38,.eq (.pointer (some ⟨c.1,0,none⟩))),(43,I j.2)] [.inv c.2 (aI k q3),.obj b1 28 (.rep ab a0),.obj c.1 109 (.pair (.rep ab q3) (.pair (.eq (.int .i32 0)) (.pair (.eq (.int .u32 0)) (.eq (.map (some c.2)))))),.sl l 3 (.int .i64) j.1]:=by
           subst hK hJ;refine JD.step [1,3,7] (by kernel_rfl) rfl ⟨⟨_,rfl,?_⟩,⟨_,rfl,?_⟩,⟨_,rfl,?_⟩,trivial⟩
           ·refine mq ?_;exact an s35 [0,1,2,3]
           ·refine mq ?_;exact an s41 [0,1,2,3]
           ·refine fl dK ?_;exact an s161 [0,1,2,3]
          have s129:K_ 8 [true,false,false,false,false,false,false,true,false,false] [(14,.eq (.int .u8 s)),(38,.eq (.pointer (some ⟨c.1,0,none⟩))),(45,.eq (.pointer (some ⟨b1,2,none⟩)))] [.inv c.2 (aI k q3),.obj b1 28 (.rep ab a0),.obj c.1 109 (.pair (.rep ab q3) (.pair (.eq (.int .i32 0)) (.pair (.eq (.int .u32 0)) (.eq (.map (some c.2)))))),.sl l 3 (.int .i64) j.1]:=by
           subst hK hJ;refine JD.step [1,3,5,8] (by kernel_rfl) rfl ⟨⟨_,rfl,?_⟩,⟨_,rfl,?_⟩,⟨_,rfl,?_⟩,⟨_,rfl,?_⟩,trivial⟩
           ·refine mq ?_;exact an s131 [0,1,2,3]
           ·refine mq ?_;exact an s137 [0,1,2,3]
           ·refine mq ?_;exact an s161 [0,1,2,3]
           ·refine fr 1 ?_;refine lo bT ?_;exact an s385 [1,0,2,3]
          have s10:K_ 8 [false,true,false,true,false,false,false,false,false,false] [(39,.eq (.int .u8 s)),(41,I a1)] [.inv c.2 (aI k q3),.obj b1 28 (.rep ab a0),.obj c.1 109 (.pair (.rep ab q3) (.pair (.eq (.int .i32 0)) (.pair (.eq (.int .u32 0)) (.eq (.map (some c.2)))))),.sl l 3 (.int .i64) j.1]:=by
           subst hK hJ;refine JD.step [0,5,7] (by kernel_rfl) rfl ⟨⟨_,rfl,?_⟩,⟨_,rfl,?_⟩,⟨_,rfl,?_⟩,trivial⟩
           ·refine mq ?_;exact an s11 [0,1,2,3]
           ·refine mq ?_;exact an s42 [0,1,2,3]
           ·refine fl dK ?_;exact an s138 [0,1,2,3]
          have s34:K_ 8 [false,true,false,false,false,true,false,false,false,false] [(39,.eq (.int .u8 s)),(43,I j.2)] [.inv c.2 (aI k q3),.obj b1 28 (.rep ab a0),.obj c.1 109 (.pair (.rep ab q3) (.pair (.eq (.int .i32 0)) (.pair (.eq (.int .u32 0)) (.eq (.map (some c.2)))))),.sl l 3 (.int .i64) j.1]:=by
           subst hK hJ;refine JD.step [0,3,7] (by kernel_rfl) rfl ⟨⟨_,rfl,?_⟩,⟨_,rfl,?_⟩,⟨_,rfl,?_⟩,trivial⟩
           ·refine mq ?_;exact an s35 [0,1,2,3]
           ·refine mq ?_;exact an s42 [0,1,2,3]
           ·refine fl dK ?_;exact an s162 [0,1,2,3]
          have s130:K_ 8 [false,true,false,false,false,false,false,true,false,false] [(39,.eq (.int .u8 s)),(45,.eq (.pointer (some ⟨b1,2,none⟩)))] [.inv c.2 (aI k q3),.obj b1 28 (.rep ab a0),.obj c.1 109 (.pair (.rep ab q3) (.pair (.eq (.int .i32 0)) (.pair (.eq (.int .u32 0)) (.eq (.map (some c.2)))))),.sl l 3 (.int .i64) j.1]:=by
           subst hK hJ;refine JD.step [0,3,5,8] (by kernel_rfl) rfl ⟨⟨_,rfl,?_⟩,⟨_,rfl,?_⟩,⟨_,rfl,?_⟩,⟨_,rfl,?_⟩,trivial⟩
           ·refine mq ?_;exact an s131 [0,1,2,3]
           ·refine mq ?_;exact an s138 [0,1,2,3]
           ·refine mq ?_;exact an s162 [0,1,2,3]
           ·refine fr 1 ?_;refine lo bT ?_;exact an s386 [1,0,2,3]
          have s40:K_ 8 [false,false,false,true,false,true,false,false,false,false] [(14,.eq (.int .u8 s)),(41,I a1),(43,I j.2)] [.inv c.2 (aI k q3),.obj b1 28 (.rep ab a0),.obj c.1 109 (.pair (.rep ab q3) (.pair (.eq (.int .i32 0)) (.pair (.eq (.int .u32 0)) (.eq (.map (some c.2)))))),.sl l 3 (.int .i64) j.1]:=by
           subst hK hJ;refine JD.step [0,1,7] (by kernel_rfl) rfl ⟨⟨_,rfl,?_⟩,⟨_,rfl,?_⟩,⟨_,rfl,?_⟩,trivial⟩
           ·refine mq ?_;exact an s41 [0,1,2,3]
           ·refine mq ?_;exact an s42 [0,1,2,3]
           ·refine fl dK ?_;exact an s168 [0,1,2,3]
          have s136:K_ 8 [false,false,false,true,false,false,false,true,false,false] [(14,.eq (.int .u8 s)),(41,I a1),(45,.eq (.pointer (some ⟨b1,2,none⟩)))] [.inv c.2 (aI k q3),.obj b1 28 (.rep ab a0),.obj c.1 109 (.pair (.rep ab q3) (.pair (.eq (.int .i32 0)) (.pair (.eq (.int .u32 0)) (.eq (.map (some c.2)))))),.sl l 3 (.int .i64) j.1]:=by
           subst hK hJ;refine JD.step [0,1,5,8] (by kernel_rfl) rfl ⟨⟨_,rfl,?_⟩,⟨_,rfl,?_⟩,⟨_,rfl,?_⟩,⟨_,rfl,?_⟩,trivial⟩
           ·refine mq ?_;exact an s137 [0,1,2,3]
           ·refine mq ?_;exact an s138 [0,1,2,3]
           ·refine mq ?_;exact an s168 [0,1,2,3]
           ·refine fr 1 ?_;refine lo bT ?_;exact an s392 [1,0,2,3]
          have s160:K_ 8 [false,false,false,false,false,true,false,true,false,false] [(14,.eq (.int .u8 s)),(43,I j.2),(45,.eq (.pointer (some ⟨b1,2,none⟩)))] [.inv c.2 (aI k q3),.obj b1 28 (.rep ab a0),.obj c.1 109 (.pair (.rep ab q3) (.pair (.eq (.int .i32 0)) (.pair (.eq (.int .u32 0)) (.eq (.map (some c.2)))))),.sl l 3 (.int .i64) j.1]:=by
           subst hK hJ;refine JD.step [0,1,3,8] (by kernel_rfl) rfl ⟨⟨_,rfl,?_⟩,⟨_,rfl,?_⟩,⟨_,rfl,?_⟩,⟨_,rfl,?_⟩,trivial⟩
           ·refine mq ?_;exact an s161 [0,1,2,3]
           ·refine mq ?_;exact an s162 [0,1,2,3]
           ·refine mq ?_;exact an s168 [0,1,2,3]
           ·refine fr 1 ?_;refine lo bT ?_;exact an s416 [1,0,2,3]
          have s384:K_ 8 [false,false,false,false,false,false,false,true,true,false] [(14,.eq (.int .u8 s)),(46,I a0.2.2.1)] [.inv c.2 (aI k q3),.obj b1 28 (.rep ab a0),.obj c.1 109 (.pair (.rep ab q3) (.pair (.eq (.int .i32 0)) (.pair (.eq (.int .u32 0)) (.eq (.map (some c.2)))))),.sl l 3 (.int .i64) j.1]:=by
           subst hK hJ;refine JD.step [0,1,3,5] (by kernel_rfl) rfl ⟨⟨_,rfl,?_⟩,⟨_,rfl,?_⟩,⟨_,rfl,?_⟩,⟨_,rfl,?_⟩,trivial⟩
           ·refine mq ?_;exact an s385 [0,1,2,3]
           ·refine mq ?_;exact an s386 [0,1,2,3]
           ·refine mq ?_;exact an s392 [0,1,2,3]
           ·refine mq ?_;exact an s416 [0,1,2,3]
          have s1:K_ 9 [true,false,false,false,false,false,false,false,false,false] [(14,.eq (.int .u8 s)),(38,.eq (.pointer (some ⟨c.1,0,none⟩)))] [.inv c.2 (aI k q3),.obj b1 28 (.rep ab a0),.obj c.1 109 (.pair (.rep ab q3) (.pair (.eq (.int .i32 0)) (.pair (.eq (.int .u32 0)) (.eq (.map (some c.2)))))),.sl l 3 (.int .i64) j.1]:=by
           subst hK hJ;refine JD.step [1,3,5,7] (by kernel_rfl) rfl ⟨⟨_,rfl,?_⟩,⟨_,rfl,?_⟩,⟨_,rfl,?_⟩,⟨_,rfl,?_⟩,trivial⟩
           ·refine mq ?_;exact an s3 [0,1,2,3]
           ·refine mq ?_;exact an s9 [0,1,2,3]
           ·refine mq ?_;exact an s33 [0,1,2,3]
           ·refine fl dK ?_;exact an s129 [0,1,2,3]
          have s2:K_ 9 [false,true,false,false,false,false,false,false,false,false] [(39,.eq (.int .u8 s))] [.inv c.2 (aI k q3),.obj b1 28 (.rep ab a0),.obj c.1 109 (.pair (.rep ab q3) (.pair (.eq (.int .i32 0)) (.pair (.eq (.int .u32 0)) (.eq (.map (some c.2)))))),.sl l 3 (.int .i64) j.1]:=by
           subst hK hJ;refine JD.step [0,3,5,7] (by kernel_rfl) rfl ⟨⟨_,rfl,?_⟩,⟨_,rfl,?_⟩,⟨_,rfl,?_⟩,⟨_,rfl,?_⟩,trivial⟩
           ·refine mq ?_;exact an s3 [0,1,2,3]
           ·refine mq ?_;exact an s10 [0,1,2,3]
           ·refine mq ?_;exact an s34 [0,1,2,3]
           ·refine fl dK ?_;exact an s130 [0,1,2,3]
          have s8:K_ 9 [false,false,false,true,false,false,false,false,false,false] [(14,.eq (.int .u8 s)),(41,I a1)] [.inv c.2 (aI k q3),.obj b1 28 (.rep ab a0),.obj c.1 109 (.pair (.rep ab q3) (.pair (.eq (.int .i32 0)) (.pair (.eq (.int .u32 0)) (.eq (.map (some c.2)))))),.sl l 3 (.int .i64) j.1]:=by
           subst hK hJ;refine JD.step [0,1,5,7] (by kernel_rfl) rfl ⟨⟨_,rfl,?_⟩,⟨_,rfl,?_⟩,⟨_,rfl,?_⟩,⟨_,rfl,?_⟩,trivial⟩
           ·refine mq ?_;exact an s9 [0,1,2,3]
           ·refine mq ?_;exact an s10 [0,1,2,3]
           ·refine mq ?_;exact an s40 [0,1,2,3]
           ·refine fl dK ?_;exact an s136 [0,1,2,3]
          have s32:K_ 9 [false,false,false,false,false,true,false,false,false,false] [(14,.eq (.int .u8 s)),(43,I j.2)] [.inv c.2 (aI k q3),.obj b1 28 (.rep ab a0),.obj c.1 109 (.pair (.rep ab q3) (.pair (.eq (.int .i32 0)) (.pair (.eq (.int .u32 0)) (.eq (.map (some c.2)))))),.sl l 3 (.int .i64) j.1]:=by
           subst hK hJ;refine JD.step [0,1,3,7] (by kernel_rfl) rfl ⟨⟨_,rfl,?_⟩,⟨_,rfl,?_⟩,⟨_,rfl,?_⟩,⟨_,rfl,?_⟩,trivial⟩
           ·refine mq ?_;exact an s33 [0,1,2,3]
           ·refine mq ?_;exact an s34 [0,1,2,3]
           ·refine mq ?_;exact an s40 [0,1,2,3]
           ·refine fl dK ?_;exact an s160 [0,1,2,3]
          have s128:K_ 9 [false,false,false,false,false,false,false,true,false,false] [(14,.eq (.int .u8 s)),(45,.eq (.pointer (some ⟨b1,2,none⟩)))] [.inv c.2 (aI k q3),.obj b1 28 (.rep ab a0),.obj c.1 109 (.pair (.rep ab q3) (.pair (.eq (.int .i32 0)) (.pair (.eq (.int .u32 0)) (.eq (.map (some c.2)))))),.sl l 3 (.int .i64) j.1]:=by
           subst hK hJ;refine JD.step [0,1,3,5,8] (by kernel_rfl) rfl ⟨⟨_,rfl,?_⟩,⟨_,rfl,?_⟩,⟨_,rfl,?_⟩,⟨_,rfl,?_⟩,⟨_,rfl,?_⟩,trivial⟩
           ·refine mq ?_;exact an s129 [0,1,2,3]
           ·refine mq ?_;exact an s130 [0,1,2,3]
           ·refine mq ?_;exact an s136 [0,1,2,3]
           ·refine mq ?_;exact an s160 [0,1,2,3]
           ·refine fr 1 ?_;refine lo bT ?_;exact an s384 [1,0,2,3]
          have s0:K_ 10 [false,false,false,false,false,false,false,false,false,false] [(14,.eq (.int .u8 s))] [.obj b1 28 (.rep ab a0),.obj c.1 109 (.pair (.rep ab q3) (.pair (.eq (.int .i32 0)) (.pair (.eq (.int .u32 0)) (.eq (.map (some c.2)))))),.sl l 3 (.int .i64) j.1,.inv c.2 (aI k q3)]:=by
           subst hK hJ;refine JD.step [0,1,3,5,7] (by kernel_rfl) rfl ⟨⟨_,rfl,?_⟩,⟨_,rfl,?_⟩,⟨_,rfl,?_⟩,⟨_,rfl,?_⟩,⟨_,rfl,?_⟩,trivial⟩
           ·refine mq ?_;exact an s1 [3,0,1,2]
           ·refine mq ?_;exact an s2 [3,0,1,2]
           ·refine mq ?_;exact an s8 [3,0,1,2]
           ·refine mq ?_;exact an s32 [3,0,1,2]
           ·refine fl dK ?_;exact an s128 [3,0,1,2]
          subst hK;exact s0
         rintro⟨⟩;show JN _ _ [(1,I a1),(2,Pt b1),(7,.eq (.pointer (some ⟨c.1,0,none⟩))),(8,.rep (.slice (.int .u8)) r2.2.1),(10,.eq l),(11,I j.2),(12,I E.1),(28,I a0.1),(29,I j.2),(32,.rep (.slice (.int .u8)) r2.2.1),(33,I (r2.2.1.length:Int)),(34,I E.2),(47,.eq (.bool (decide (a0.2.2.1≤X))))] [.inv c.2 (aI k q3),.obj b1 28 (.rep ab a0),.obj c.1 109 (.pair (.rep ab q3) (.pair (.eq (.int .i32 0)) (.pair (.eq (.int .u32 0)) (.eq (.map (some c.2)))))),.sl l 3 (.int .i64) j.1];refine tn (ci h (fun h=>?_) (fun h=>?_))
         ·refine ag (mq ?_);obtain⟨Tn,SX,h⟩:=aa h;refine jb (bB rfl SX) ?_;refine aq (aE (bn ?_));exact jz ((),Tn) h [1,2,3,0]
         ·refine bh (bn ?_);exact jz ((),E.1) h [1,2,3,0]
        ·refine ag ?_;obtain⟨Tm,SV,h⟩:=aa h;refine jb (bB rfl SV) ?_;refine mq (nl ?_);exact jz ((),(mc,Tm)) h [0,1,2,3]
       ·refine xa ?_;exact jz ((),E.1) h [0,1,2,3]
      ·refine ag ?_;iterate 3 refine mq ?_
       refine ol vS ?_;refine mq ?_;obtain⟨SO,SU,h⟩:=aa h;refine jb (ek rfl SU) ?_;refine jb (yj rfl rfl) ?_;refine ja (bf (t:=(.int .i64)) [(.tmp 57,_)] [j8 Y SO] rfl rfl dn (.cons rfl .int .nil) rfl rfl) ?_;obtain⟨TB,S7,h⟩:=aa h;refine fr 2 ?_;refine dN rfl rfl rfl (cx rfl rfl dn (ao S7)) ⟨rfl,rfl,trivial⟩ fun Tt=>?_;refine aq (aE (bn ?_));exact jz (Tt,j.1++[j8 Y SO]) h [1,2,0,3]
     ·refine ag ?_;obtain⟨Tj,SS,h⟩:=aa h;refine jb (bB rfl SS) ?_;refine mq (nl ?_);exact jz (U,(mw,Tj)) h [0,1,2,3]
    ·refine xa ?_;exact jz (l,j.1) h [2,3]
   ·refine sr (mq ?_);obtain⟨zz,Td,h⟩:=aa h;refine ka (gf (N:=[(.tmp 61,.eq O)]) (ax [.tmp 61] rfl rfl Jz rfl (iE k gq zz Td)) (fun _ _ _ hv hn=>⟨(lend hn.1 hv),trivial⟩) (fun _=>⟨rfl,jK⟩)) ?_;refine aq (nt (am (sr ?_)));iterate 2 refine mq ?_
    refine ol vS ?_;refine jb (i9 rfl) ?_;refine nt (ci h (fun h=>?_) (fun h=>?_))
    ·refine sr (cq ?_);refine cq ?_;refine cq (nt (rx ?_));cases h;exact aM () [_,_,_] 0 ⟨rfl,rfl,rfl,trivial⟩ rfl
    ·refine sk (sr ?_);iterate 2 refine mq ?_
     obtain⟨Tv,Ta,h⟩:=aa h;refine kb (gf (N:=[(.tmp 67,.eq O),(.tmp 68,I zz)]) (ax [.tmp 67,.tmp 68] rfl rfl M5 rfl (je k gq zz Tv Ta)) (fun _ _ _ hv hn=>⟨(lend hn.1 hv),hn.2.1,trivial⟩) (fun _=>⟨rfl,jK⟩)) ?_;refine mq ?_;refine aq ?_;refine aq ?_;refine cq (nt (aC ?_));cases h;exact aM () [_,_,_] 0 ⟨rfl,rfl,rfl,trivial⟩ rfl
def mN(k:Nat)(r3:(Option ai)×(List Int)×Int):Nat→Unit→Option Unit
 |0,_=>none
 |n+1,y7=>
  if 0 < (r3.2.1.length:Int) then(none) else(some ())
def km(k:Nat)(a1:Int)(r3:(Option ai)×(List Int)×Int)(q4:ai):Nat→((List Int)×Int)→Option (List Int)
 |0,_=>none
 |n+1,c=>
  if c.2 < (r3.2.1.length:Int) then((((aX r3.2.1 c.2).bind fun j=>
  (hP k q4 j a1).bind fun e=>
  if 0≤e then((cJ (cu (List.length c.1+List.length [e]))).bind fun _=>
  some (c.1++[e])) else(some c.1)):Option ((List Int))).bind fun l=>
  (ck (c.2+1)).bind fun h=>
  km k a1 r3 q4 n (l,h)) else(some c.1)
def rK(k:Nat)(a0:ai)(a1:Int):Option (eZ×Int):=
 (l9 k a0 [a1] ([]:(List Int)) ([]:(List Int))).bind fun r3=>
 fa r3.1 (if¬(r3.2.2=0) then(some ((0,0),r3.2.2)) else(((mN k r3 k ()):Option (Unit)).bind fun _=>
 if(([]:(List Int)).length:Int)=0 then(some ((0,0),11)) else((im k ([]:(List Int))).bind fun l=>
 (lx k ([]:(List Int))).bind fun j=>
 some ((l,j),0)))) (fun q4=>if¬(r3.2.2=0) then(some ((0,0),r3.2.2)) else(((km k a1 r3 q4 k (([]:(List Int)),0)):Option ((List Int))).bind fun c=>
 if(c.length:Int)=0 then(some ((0,0),11)) else((im k c).bind fun h=>
 (lx k c).bind fun e=>
 some ((h,e),0))))
theorem wJ(k:Nat)(a0:ai)(a1:Int)(r:eZ×Int)(h:rK k a0 a1=some r):
 bX (dE Tryz.prog) 32 [.rep ab a0,I a1] [] (fun _:Unit=>(bI [.rep bq r.1,I r.2],[])):=by
 unfold rK at h
 replace h:=bo h
 refine bX.of 51 Tryz.func32 rfl Tryz.ntmps32 rfl fun S w0=>?_
 refine sr ?_
 refine bx fun b1=>?_
 refine aZ rfl rfl rfl (bu rfl vZ PG) trivial fun b2=>?_
 refine cq ?_
 refine nt ?_
 refine sr ?_
 refine fr 1 ?_
 refine lo iZ ?_
 refine mq ?_
 refine ja (bf (t:=(.int .i64)) [(.tmp 15,_)] [a1] rfl rfl dn (.cons rfl .int .nil) rfl rfl) ?_
 obtain⟨r3,SI,h⟩:=aa h
 have O:=mJ k a0 [a1] ([]:(List Int)) ([]:(List Int)) r3 SI
 rcases hr:r3.1 with _ |q4
 ·
  rw [hr] at h O;replace h:=ua h;refine ay (Δ:=[]) (F:=_) (fun _ _ _=>ae rfl _) rfl rfl (bv (N:=[(.tmp 14,.rep ab a0),(.tmp 16,Ri [a1]),(.const (.slice none 0 0),.eq (.slice none 0 0)),(.const (.slice none 0 0),.eq (.slice none 0 0))]) (aK [.tmp 14,.tmp 16,.const (.slice none 0 0),.const (.slice none 0 0)] rfl rfl Du rfl O) fun _ _ _ hn=>⟨hn.1,hn.2.1,(aA (t:=(.slice (.int .i64))) (x:=([]:(List Int))) .nil rfl rfl hn.2.2.1),(aA (t:=(.slice (.int .i64))) (x:=([]:(List Int))) .nil rfl rfl hn.2.2.2.1),trivial⟩) ⟨rfl,rfl,rfl,rfl,trivial⟩ fun _=>?_;refine mq ?_;refine xr ?_;refine xr ?_;refine xr ?_;refine aq ?_;refine aq ?_;refine aq (nt (am (sr ?_)));refine mq ?_;refine jb (eR rfl) ?_;refine nt (cn h (fun h=>?_) (fun h=>?_))
  ·refine sr (bU rfl (dC [] rfl zW vZ ug (i8 trivial) rfl) trivial ?_);refine mq ?_;refine fr 1 ?_;refine aU rfl rfl (aR rfl qj trivial rfl rfl) ⟨rfl,rfl,trivial⟩ ?_;refine aq (nt (rx ?_));refine b8 (ic (a:=.agg (.pair (I 0) (I 0))) (a':=.rep bq (0,0)) (og (.agg (.pair .int .int)))) ?_;cases h;exact aM () [.rep bq (0,0),_] 0 ⟨⟨_,_,_,_,_,rfl,(.head _),qj,(qD),rfl⟩,rfl,trivial⟩ rfl
  ·refine sk (sr (cq (nt ?_)));refine aJ (Z:=Unit) (α:=Unit) (fun z6 x5=>[(4,Pt b2),(9,.eq (.slice none 0 0))]) (fun z6 x5=>[.obj b2 74 (.agg (.pair (I 0) (I 0)))]) h (fun K h=>?_) (fun z6 x5 h=>?_)
   ·refine sr (mq ?_);refine ol vS ?_;refine dT rfl ?_;refine nt (ak (aH (fun z8 y7=>[(1,I a1),(4,Pt b2),(6,.eq (.pointer none)),(9,.eq (.slice none 0 0)),(25,.rep (.slice (.int .u8)) r3.2.1),(26,I (r3.2.1.length:Int)),(27,I 0)]) (fun z8 y7=>[.obj b2 74 (.agg (.pair (I 0) (I 0)))]) (mN k r3) k () () (fun _=>rfl) h (SE.fin [1] ⟨rfl,rfl,rfl,rfl,rfl,rfl,rfl,trivial⟩ rfl) (fun n z8 y7 h=>?_)));unfold mN at h;refine sr (jb (bG rfl) ?_);refine nt (am (ci h (fun h=>?_) (fun h=>?_)))
    ·cases h
    ·refine xa ?_;exact jz ((),()) h [0]
   ·refine am (sr (mq ?_));refine dX (d4 (t:=(.slice (.int .i64))) (x:=([]:(List Int))) 42 rfl .nil rfl rfl) ?_;refine ol iC ?_;refine jb (jd rfl) ?_;refine nt (ci h (fun h=>?_) (fun h=>?_))
    ·refine sr (bU rfl (dC [] rfl zW vZ ug (i8 trivial) rfl) trivial ?_);refine aU rfl rfl (aR rfl qj trivial rfl rfl) ⟨rfl,rfl,trivial⟩ ?_;refine cq (nt (rx ?_));refine b8 (ic (a:=.agg (.pair (I 0) (I 0))) (a':=.rep bq (0,0)) (og (.agg (.pair .int .int)))) ?_;cases h;exact aM () [.rep bq (0,0),_] 0 ⟨⟨_,_,_,_,_,rfl,(.head _),qj,(qD),rfl⟩,rfl,trivial⟩ rfl
    ·refine sk (sr (mq ?_));obtain⟨M,qt,h⟩:=aa h;refine ja (bv (N:=[(.tmp 46,.eq (.slice none 0 0))]) (ax [.tmp 46] rfl rfl Jz rfl (iE k ([]:(List Int)) M qt)) fun _ _ _ hn=>⟨(aA (t:=(.slice (.int .i64))) (x:=([]:(List Int))) .nil rfl rfl hn.1),trivial⟩) ?_;refine mq ?_;obtain⟨J,mw,h⟩:=aa h;refine ja (bv (N:=[(.tmp 48,.eq (.slice none 0 0))]) (ax [.tmp 48] rfl rfl O8 rfl (nD k ([]:(List Int)) J mw)) fun _ _ _ hn=>⟨(aA (t:=(.slice (.int .i64))) (x:=([]:(List Int))) .nil rfl rfl hn.1),trivial⟩) ?_;refine jb (dC [(0,.tmp 47,_),(1,.tmp 49,_)] rfl zW vZ ug (i8 ⟨rfl,rfl,trivial⟩) rfl) ?_;refine aU rfl rfl (aR rfl qj trivial rfl rfl) ⟨rfl,rfl,trivial⟩ ?_;refine cq (nt (aC ?_));refine b8 (ic (a:=.agg (.pair (I M) (I J))) (a':=.rep bq (M,J)) (og (.agg (.pair .int .int)))) ?_;cases h;exact aM () [.rep bq (M,J),_] 0 ⟨⟨_,_,_,_,_,rfl,(.head _),qj,(qD),rfl⟩,rfl,trivial⟩ rfl
 ·
  rw [hr] at h O;replace h:=t9 h;refine ay (Δ:=[]) (F:=_) (fun _ _ _=>ae rfl _) rfl rfl (bv (N:=[(.tmp 14,.rep ab a0),(.tmp 16,Ri [a1]),(.const (.slice none 0 0),.eq (.slice none 0 0)),(.const (.slice none 0 0),.eq (.slice none 0 0))]) (aK [.tmp 14,.tmp 16,.const (.slice none 0 0),.const (.slice none 0 0)] rfl rfl Du rfl O) fun _ _ _ hn=>⟨hn.1,hn.2.1,(aA (t:=(.slice (.int .i64))) (x:=([]:(List Int))) .nil rfl rfl hn.2.2.1),(aA (t:=(.slice (.int .i64))) (x:=([]:(List Int))) .nil rfl rfl hn.2.2.2.1),trivial⟩) ⟨rfl,rfl,rfl,rfl,trivial⟩ fun c=>?_;refine mq ?_;refine xr ?_;refine xr ?_;refine xr ?_;refine aq ?_;refine aq ?_;refine aq (nt (am (sr ?_)));refine mq ?_;refine jb (eR rfl) ?_;refine nt (cn h (fun h=>?_) (fun h=>?_))
  ·refine sr (bU rfl (dC [] rfl zW vZ ug (i8 trivial) rfl) trivial ?_);refine mq ?_;refine fr 3 ?_;refine aU rfl rfl (aR rfl qj trivial rfl rfl) ⟨rfl,rfl,trivial⟩ ?_;refine aq (nt (rx ?_));refine b8 (ic (a:=.agg (.pair (I 0) (I 0))) (a':=.rep bq (0,0)) (og (.agg (.pair .int .int)))) ?_;cases h;exact aM () [.rep bq (0,0),_] 0 ⟨⟨_,_,_,_,_,rfl,(.head _),qj,(qD),rfl⟩,rfl,trivial⟩ rfl
  ·refine sk (sr (cq (nt ?_)));refine aJ (Z:=Value) (α:=(List Int)) (fun l u=>[(4,Pt b2),(9,.eq l)]) (fun l u=>[.obj b2 74 (.agg (.pair (I 0) (I 0))),.sl l 3 (.int .i64) u,.inv c.2 (aI k q4)]) h (fun K h=>?_) (fun l u h=>?_)
   ·refine sr (mq ?_);refine ol vS ?_;refine dT rfl ?_;refine nt (ak (gX (SE.nil 3 (.int .i64)) ?_));refine aH (fun j e=>[(1,I a1),(4,Pt b2),(6,.eq (.pointer (some ⟨c.1,0,none⟩))),(9,.eq j),(25,.rep (.slice (.int .u8)) r3.2.1),(26,I (r3.2.1.length:Int)),(27,I e.2)]) (fun j e=>[.obj b2 74 (.agg (.pair (I 0) (I 0))),.obj c.1 109 (.pair (.rep ab q4) (.pair (.eq (.int .i32 0)) (.pair (.eq (.int .u32 0)) (.eq (.map (some c.2)))))),.sl j 3 (.int .i64) e.1,.inv c.2 (aI k q4)]) (km k a1 r3 q4) k (.slice none 0 0) (([]:(List Int)),0) (fun _=>rfl) h (SE.fin [4,1,0,2] ⟨rfl,rfl,rfl,rfl,rfl,rfl,rfl,trivial⟩ rfl) (fun n j e h=>?_);unfold km at h;refine sr (jb (bG rfl) ?_);refine nt (am (ci h (fun h=>?_) (fun h=>?_)))
    ·refine sk (aJ (Z:=Value) (α:=(List Int)) (fun s y=>[(1,I a1),(4,Pt b2),(6,.eq (.pointer (some ⟨c.1,0,none⟩))),(9,.eq s),(25,.rep (.slice (.int .u8)) r3.2.1),(26,I (r3.2.1.length:Int)),(27,I e.2)]) (fun s y=>[.obj b2 74 (.agg (.pair (I 0) (I 0))),.obj c.1 109 (.pair (.rep ab q4) (.pair (.eq (.int .i32 0)) (.pair (.eq (.int .u32 0)) (.eq (.map (some c.2)))))),.sl s 3 (.int .i64) y,.inv c.2 (aI k q4)]) h (fun K h=>?_) (fun s y h=>?_))
     ·refine ak (sr ?_);obtain⟨SG,X,h⟩:=aa h;refine jb (be (t:=(.int .u8)) rfl vS pg X) ?_;refine ja (av (t:=(.int .u8)) rfl pg rfl) ?_;refine aq (nt (sr ?_));iterate 3 refine mq ?_
      obtain⟨Q,mc,h⟩:=aa h;refine fr 3 ?_;refine fr 2 ?_;refine ay (Δ:=[_,_]) (F:=_) (fun _ _ _=>ae rfl _) rfl rfl (aK [.tmp 31,.tmp 32,.tmp 33] rfl rfl Pe rfl (kS k q4 c.1 c.2 SG a1 Q mc)) ⟨rfl,rfl,rfl,trivial⟩ fun _=>?_;refine aq (nt (sr ?_));refine mq ?_;refine jb (i9 rfl) ?_;refine nt (ci h (fun h=>?_) (fun h=>?_))
      ·refine ag ?_;iterate 2 refine mq ?_
       refine ja (bf (t:=(.int .i64)) [(.tmp 38,_)] [Q] rfl rfl dn (.cons rfl .int .nil) rfl rfl) ?_;obtain⟨SJ,Y,h⟩:=aa h;refine fr 3 ?_;refine dN rfl rfl rfl (cx rfl rfl dn (ao Y)) ⟨rfl,rfl,trivial⟩ fun SH=>?_;refine aq (aE (bn ?_));exact jz (SH,e.1++[Q]) h [3,1,0,2]
      ·refine bh (bn ?_);exact jz (j,e.1) h [2,0,3,1]
     ·refine ag ?_;obtain⟨zz,U,h⟩:=aa h;refine jb (bB rfl U) ?_;refine mq (nl ?_);exact jz (s,(y,zz)) h [0,1,2,3]
    ·refine xa ?_;exact jz (j,e.1) h [0,2,3]
   ·refine am (sr (mq ?_));refine fr 1 ?_;refine ka (lZ rfl rfl iC) ?_;refine jb (jd rfl) ?_;refine nt (ci h (fun h=>?_) (fun h=>?_))
    ·refine sr (bU rfl (dC [] rfl zW vZ ug (i8 trivial) rfl) trivial ?_);refine fr 1 ?_;refine aU rfl rfl (aR rfl qj trivial rfl rfl) ⟨rfl,rfl,trivial⟩ ?_;refine cq (nt (rx ?_));refine b8 (ic (a:=.agg (.pair (I 0) (I 0))) (a':=.rep bq (0,0)) (og (.agg (.pair .int .int)))) ?_;cases h;exact aM () [.rep bq (0,0),_] 0 ⟨⟨_,_,_,_,_,rfl,(.head _),qj,(qD),rfl⟩,rfl,trivial⟩ rfl
    ·refine sk (sr (mq ?_));obtain⟨E,gw,h⟩:=aa h;refine ka (gf (N:=[(.tmp 46,.eq l)]) (ax [.tmp 46] rfl rfl Jz rfl (iE k u E gw)) (fun _ _ _ hv hn=>⟨(lend hn.1 hv),trivial⟩) (fun _=>⟨rfl,jK⟩)) ?_;refine mq ?_;obtain⟨D,gq,h⟩:=aa h;refine ka (gf (N:=[(.tmp 48,.eq l)]) (ax [.tmp 48] rfl rfl O8 rfl (nD k u D gq)) (fun _ _ _ hv hn=>⟨(lend hn.1 hv),trivial⟩) (fun _=>⟨rfl,jK⟩)) ?_;refine jb (dC [(0,.tmp 47,_),(1,.tmp 49,_)] rfl zW vZ ug (i8 ⟨rfl,rfl,trivial⟩) rfl) ?_;refine fr 1 ?_;refine aU rfl rfl (aR rfl qj trivial rfl rfl) ⟨rfl,rfl,trivial⟩ ?_;refine cq (nt (aC ?_));refine b8 (ic (a:=.agg (.pair (I E) (I D))) (a':=.rep bq (E,D)) (og (.agg (.pair .int .int)))) ?_;cases h;exact aM () [.rep bq (E,D),_] 0 ⟨⟨_,_,_,_,_,rfl,(.head _),qj,(qD),rfl⟩,rfl,trivial⟩ rfl
def jw(k:Nat)(a1:Int)(a2:Int)(y4:(List (List (List Int)))×Int)(h:(List Int)):Nat→((List Int)×Int)→Option (List Int)
 |0,_=>none
 |n+1,c=>
  if c.2 < (h.length:Int) then((((aX h c.2).bind fun e=>
  ((if y4.2 < a1 then(some true) else((eu k a2 e).bind fun s=>
  some (!s))):Option (Bool)).bind fun l=>
  if l=true then((cJ (cu (List.length c.1+List.length [e]))).bind fun _=>
  some (c.1++[e])) else(some c.1)):Option ((List Int))).bind fun r=>
  (ck (c.2+1)).bind fun j=>
  jw k a1 a2 y4 h n (r,j)) else(some c.1)
def jx(k:Nat)(a1:Int)(a2:Int)(y4:(List (List (List Int)))×Int)(x8:(List (List Int))):Nat→((List (List Int))×Int)→Option (List (List Int))
 |0,_=>none
 |n+1,c=>
  if c.2 < (x8.length:Int) then((((aX x8 c.2).bind fun j=>
  ((jw k a1 a2 y4 j k (([]:(List Int)),0)):Option ((List Int))).bind fun e=>
  (cJ (cu (List.length c.1+List.length [e]))).bind fun _=>
  some (c.1++[e])):Option ((List (List Int)))).bind fun l=>
  (ck (c.2+1)).bind fun h=>
  jx k a1 a2 y4 x8 n (l,h)) else(some c.1)
def jy(k:Nat)(a0:ai)(a1:Int)(a2:Int):Nat→((List (List (List Int)))×Int)→Option (List (List (List Int)))
 |0,_=>none
 |n+1,y4=>
  if y4.2 < (a0.2.2.2.2.1.length:Int) then((((aX a0.2.2.2.2.1 y4.2).bind fun x8=>
  ((jx k a1 a2 y4 x8 k (([]:(List (List Int))),0)):Option ((List (List Int)))).bind fun x9=>
  (cJ (cu (List.length y4.1+List.length [x9]))).bind fun _=>
  some (y4.1++[x9])):Option ((List (List (List Int))))).bind fun x6=>
  (ck (y4.2+1)).bind fun c=>
  jy k a0 a1 a2 n (x6,c)) else(some y4.1)
def ji(k:Nat)(a0:ai)(a1:Int)(a2:Int):Option (Option ai):=
 ((jy k a0 a1 a2 k (([]:(List (List (List Int)))),0)):Option ((List (List (List Int))))).bind fun x2=>
 (iL k (a0.1,a0.2.1,a0.2.2.1,a0.2.2.2.1,x2,a0.2.2.2.2.2)).bind fun c=>
 fa c (some none) (fun e=>some (some e))
theorem o5(k:Nat)(a0:ai)(a1:Int)(a2:Int)(r:(Option ai))(h:ji k a0 a1 a2=some r):
 dy Tryz.prog 59 [.rep ab a0,I a1,.eq (.int .u8 a2)] [] (fun z:Nat×Nat=>(bI [IJ r z.1],II r fun q=>qd q z.1 z.2 k)):=by
 unfold ji at h
 replace h:=bo h
 refine dy.of 69 Tryz.func59 rfl Tryz.ntmps59 rfl fun S w0=>?_
 refine sr ?_
 refine bx fun b1=>?_
 refine cq ?_
 refine nt ?_
 refine sr ?_
 refine fl eL ?_
 refine lo lN ?_
 refine mq ?_
 refine ja (pw [.tmp 19] [] [(.int .u8 a2)] [] rfl rfl rfl) ?_
 refine aq ?_
 refine aq ?_
 refine nt ?_
 refine sr ?_
 refine fl eL ?_
 refine aU rfl rfl (aR rfl lN rfl rfl rfl) ⟨rfl,rfl,trivial⟩ ?_
 refine nt ?_
 refine aJ (Z:=Value) (α:=(List (List (List Int)))) (fun z3 x2=>[(3,Pt b1)]) (fun z3 x2=>[.obj b1 28 (.agg (.pair (I a0.1) (.pair (I a0.2.1) (.pair (I a0.2.2.1) (.pair (I a0.2.2.2.1) (.pair (.eq z3) (Rs bP a0.2.2.2.2.2))))))),.sl z3 32 (.slice (.slice (.int .i64))) x2]) h (fun K h=>?_) (fun z3 x2 h=>?_)
 ·
  refine sr (mq ?_);refine ol AQ ?_;refine dT rfl ?_;refine nt (ak (gX (SE.nil 32 (.slice (.slice (.int .i64)))) ?_));refine cK 1 rfl ?_;refine gX (ic (a:=.agg (.pair (.rep (.int .i64) a0.1) (.pair (.rep (.int .i64) a0.2.1) (.pair (.rep (.int .i64) a0.2.2.1) (.pair (.rep (.int .i64) a0.2.2.2.1) (.pair (.eq (.slice none 0 0)) (Rs bP a0.2.2.2.2.2))))))) (a':=.agg (.pair (I a0.1) (.pair (I a0.2.1) (.pair (I a0.2.2.1) (.pair (I a0.2.2.2.1) (.pair (.eq (.slice none 0 0)) (Rs bP a0.2.2.2.2.2))))))) (AE.agg (AE.pair AE.int (AE.pair AE.int (AE.pair AE.int (AE.pair AE.int AE.rfl)))))) ?_;refine aH (fun z5 y4=>[(1,I a1),(3,Pt b1),(8,.eq (.func (.func 67) #[(.int .u8 a2)] #[])),(22,.rep (.slice (.slice (.slice (.int .i64)))) a0.2.2.2.2.1),(23,I (a0.2.2.2.2.1.length:Int)),(24,I y4.2)]) (fun z5 y4=>[.obj b1 28 (.agg (.pair (I a0.1) (.pair (I a0.2.1) (.pair (I a0.2.2.1) (.pair (I a0.2.2.2.1) (.pair (.eq z5) (Rs bP a0.2.2.2.2.2))))))),.sl z5 32 (.slice (.slice (.int .i64))) y4.1]) (jy k a0 a1 a2) k (.slice none 0 0) (([]:(List (List (List Int)))),0) (fun _=>rfl) h (SE.fin [0,1] ⟨rfl,rfl,rfl,rfl,rfl,rfl,trivial⟩ rfl) (fun n z5 y4 h=>?_);unfold jy at h;refine sr (jb (bG rfl) ?_);refine nt (am (ci h (fun h=>?_) (fun h=>?_)))
  ·refine sk (aJ (Z:=Value) (α:=(List (List (List Int)))) (fun z7 x6=>[(1,I a1),(3,Pt b1),(8,.eq (.func (.func 67) #[(.int .u8 a2)] #[])),(22,.rep (.slice (.slice (.slice (.int .i64)))) a0.2.2.2.2.1),(23,I (a0.2.2.2.2.1.length:Int)),(24,I y4.2)]) (fun z7 x6=>[.obj b1 28 (.agg (.pair (I a0.1) (.pair (I a0.2.1) (.pair (I a0.2.2.1) (.pair (I a0.2.2.2.1) (.pair (.eq z7) (Rs bP a0.2.2.2.2.2))))))),.sl z7 32 (.slice (.slice (.int .i64))) x6]) h (fun K h=>?_) (fun z7 x6 h=>?_))
   ·refine ak (sr (mq ?_));obtain⟨x8,SY,h⟩:=aa h;refine jb (be (t:=(.slice (.slice (.int .i64)))) rfl AQ xX SY) ?_;refine ja (av (t:=(.slice (.slice (.int .i64)))) rfl xX rfl) ?_;refine aq ?_;refine aq (nt (sr ?_));refine cq (nt ?_);refine aJ (Z:=Value) (α:=(List (List Int))) (fun Q x9=>[(1,I a1),(3,Pt b1),(8,.eq (.func (.func 67) #[(.int .u8 a2)] #[])),(11,.eq Q),(22,.rep (.slice (.slice (.slice (.int .i64)))) a0.2.2.2.2.1),(23,I (a0.2.2.2.2.1.length:Int)),(24,I y4.2)]) (fun Q x9=>[.obj b1 28 (.agg (.pair (I a0.1) (.pair (I a0.2.1) (.pair (I a0.2.2.1) (.pair (I a0.2.2.2.1) (.pair (.eq z5) (Rs bP a0.2.2.2.2.2))))))),.sl z5 32 (.slice (.slice (.int .i64))) y4.1,.sl Q 22 (.slice (.int .i64)) x9]) h (fun K h=>?_) (fun Q x9 h=>?_)
    ·refine sr (mq ?_);refine ol sE ?_;refine dT rfl ?_;refine nt (ak (gX (SE.nil 22 (.slice (.int .i64))) ?_));refine aH (fun e c=>[(1,I a1),(3,Pt b1),(8,.eq (.func (.func 67) #[(.int .u8 a2)] #[])),(9,I y4.2),(11,.eq e),(22,.rep (.slice (.slice (.slice (.int .i64)))) a0.2.2.2.2.1),(23,I (a0.2.2.2.2.1.length:Int)),(24,I y4.2),(29,.rep (.slice (.slice (.int .i64))) x8),(30,I (x8.length:Int)),(31,I c.2)]) (fun e c=>[.obj b1 28 (.agg (.pair (I a0.1) (.pair (I a0.2.1) (.pair (I a0.2.2.1) (.pair (I a0.2.2.2.1) (.pair (.eq z5) (Rs bP a0.2.2.2.2.2))))))),.sl z5 32 (.slice (.slice (.int .i64))) y4.1,.sl e 22 (.slice (.int .i64)) c.1]) (jx k a1 a2 y4 x8) k (.slice none 0 0) (([]:(List (List Int))),0) (fun _=>rfl) h (SE.fin [1,2,0] ⟨rfl,rfl,rfl,rfl,rfl,rfl,rfl,rfl,rfl,rfl,rfl,trivial⟩ rfl) (fun n e c h=>?_);unfold jx at h;refine sr (jb (bG rfl) ?_);refine nt (am (ci h (fun h=>?_) (fun h=>?_)))
     ·refine sk (aJ (Z:=Value) (α:=(List (List Int))) (fun E X=>[(1,I a1),(3,Pt b1),(8,.eq (.func (.func 67) #[(.int .u8 a2)] #[])),(9,I y4.2),(11,.eq E),(22,.rep (.slice (.slice (.slice (.int .i64)))) a0.2.2.2.2.1),(23,I (a0.2.2.2.2.1.length:Int)),(24,I y4.2),(29,.rep (.slice (.slice (.int .i64))) x8),(30,I (x8.length:Int)),(31,I c.2)]) (fun E X=>[.obj b1 28 (.agg (.pair (I a0.1) (.pair (I a0.2.1) (.pair (I a0.2.2.1) (.pair (I a0.2.2.2.1) (.pair (.eq z5) (Rs bP a0.2.2.2.2.2))))))),.sl z5 32 (.slice (.slice (.int .i64))) y4.1,.sl E 22 (.slice (.int .i64)) X]) h (fun K h=>?_) (fun E X h=>?_))
      ·refine ak (sr ?_);obtain⟨u,SI,h⟩:=aa h;refine jb (be (t:=(.slice (.int .i64))) rfl sE iD SI) ?_;refine ja (av (t:=(.slice (.int .i64))) rfl iD rfl) ?_;refine aq (nt (sr ?_));refine cq (nt ?_);refine aJ (Z:=Value) (α:=(List Int)) (fun O M=>[(1,I a1),(3,Pt b1),(8,.eq (.func (.func 67) #[(.int .u8 a2)] #[])),(9,I y4.2),(11,.eq e),(14,.eq O),(22,.rep (.slice (.slice (.slice (.int .i64)))) a0.2.2.2.2.1),(23,I (a0.2.2.2.2.1.length:Int)),(24,I y4.2),(29,.rep (.slice (.slice (.int .i64))) x8),(30,I (x8.length:Int)),(31,I c.2)]) (fun O M=>[.obj b1 28 (.agg (.pair (I a0.1) (.pair (I a0.2.1) (.pair (I a0.2.2.1) (.pair (I a0.2.2.2.1) (.pair (.eq z5) (Rs bP a0.2.2.2.2.2))))))),.sl z5 32 (.slice (.slice (.int .i64))) y4.1,.sl e 22 (.slice (.int .i64)) c.1,.sl O 3 (.int .i64) M]) h (fun K h=>?_) (fun O M h=>?_)
       ·refine sr (mq ?_);refine ol iC ?_;refine dT rfl ?_;refine nt (ak (gX (SE.nil 3 (.int .i64)) ?_));refine aH (fun l j=>[(1,I a1),(3,Pt b1),(8,.eq (.func (.func 67) #[(.int .u8 a2)] #[])),(9,I y4.2),(11,.eq e),(14,.eq l),(22,.rep (.slice (.slice (.slice (.int .i64)))) a0.2.2.2.2.1),(23,I (a0.2.2.2.2.1.length:Int)),(24,I y4.2),(29,.rep (.slice (.slice (.int .i64))) x8),(30,I (x8.length:Int)),(31,I c.2),(35,Ri u),(36,I (u.length:Int)),(37,I j.2)]) (fun l j=>[.obj b1 28 (.agg (.pair (I a0.1) (.pair (I a0.2.1) (.pair (I a0.2.2.1) (.pair (I a0.2.2.2.1) (.pair (.eq z5) (Rs bP a0.2.2.2.2.2))))))),.sl z5 32 (.slice (.slice (.int .i64))) y4.1,.sl e 22 (.slice (.int .i64)) c.1,.sl l 3 (.int .i64) j.1]) (jw k a1 a2 y4 u) k (.slice none 0 0) (([]:(List Int)),0) (fun _=>rfl) h (SE.fin [1,2,3,0] ⟨rfl,rfl,rfl,rfl,rfl,rfl,rfl,rfl,rfl,rfl,rfl,rfl,rfl,rfl,rfl,trivial⟩ rfl) (fun n l j h=>?_);unfold jw at h;refine sr (jb (bG rfl) ?_);refine nt (am (ci h (fun h=>?_) (fun h=>?_)))
        ·refine sk (aJ (Z:=Value) (α:=(List Int)) (fun D U=>[(1,I a1),(3,Pt b1),(8,.eq (.func (.func 67) #[(.int .u8 a2)] #[])),(9,I y4.2),(11,.eq e),(14,.eq D),(22,.rep (.slice (.slice (.slice (.int .i64)))) a0.2.2.2.2.1),(23,I (a0.2.2.2.2.1.length:Int)),(24,I y4.2),(29,.rep (.slice (.slice (.int .i64))) x8),(30,I (x8.length:Int)),(31,I c.2),(35,Ri u),(36,I (u.length:Int)),(37,I j.2)]) (fun D U=>[.obj b1 28 (.agg (.pair (I a0.1) (.pair (I a0.2.1) (.pair (I a0.2.2.1) (.pair (I a0.2.2.2.1) (.pair (.eq z5) (Rs bP a0.2.2.2.2.2))))))),.sl z5 32 (.slice (.slice (.int .i64))) y4.1,.sl e 22 (.slice (.int .i64)) c.1,.sl D 3 (.int .i64) U]) h (fun K h=>?_) (fun D U h=>?_))
         ·refine ak (sr ?_);obtain⟨J,SH,h⟩:=aa h;refine jb (be (t:=(.int .i64)) rfl iC bT SH) ?_;refine ja (av (t:=(.int .i64)) rfl bT rfl) ?_;refine aq (nt ?_);refine aJ (Z:=Unit) (α:=Bool) (fun gw gq=>[(1,I a1),(3,Pt b1),(8,.eq (.func (.func 67) #[(.int .u8 a2)] #[])),(9,I y4.2),(11,.eq e),(14,.eq l),(16,I J),(22,.rep (.slice (.slice (.slice (.int .i64)))) a0.2.2.2.2.1),(23,I (a0.2.2.2.2.1.length:Int)),(24,I y4.2),(29,.rep (.slice (.slice (.int .i64))) x8),(30,I (x8.length:Int)),(31,I c.2),(35,Ri u),(36,I (u.length:Int)),(37,I j.2),(49,.eq (.bool gq))]) (fun gw gq=>[.obj b1 28 (.agg (.pair (I a0.1) (.pair (I a0.2.1) (.pair (I a0.2.2.1) (.pair (I a0.2.2.2.1) (.pair (.eq z5) (Rs bP a0.2.2.2.2.2))))))),.sl z5 32 (.slice (.slice (.int .i64))) y4.1,.sl e 22 (.slice (.int .i64)) c.1,.sl l 3 (.int .i64) j.1]) h (fun K h=>?_) (fun gw gq h=>?_)
          ·refine ag ?_;iterate 2 refine mq ?_
           refine jb (bG rfl) ?_;refine mq ?_;refine cF (s:=44) rfl (fun hb=>?_) (fun hb=>?_)
           ·replace h:=eO (uU hb) h;iterate 4 refine gn ?_
            refine pt (nl ?_);exact jz ((),true) h [0,1,2,3]
           ·replace h:=cV (uV hb) h;refine gm ?_;refine gm ?_;obtain⟨mw,SO,h⟩:=aa h;refine gb (sY (fs:=[(.int .u8 a2)]) (cs:=[]) (ags:=[I J]) [.tmp 46] rfl rfl GY rfl (f7 k a2 J mw SO)) ?_;refine ga (gJ rfl) ?_;refine pf (nl ?_);exact jz ((), !mw) h [0,1,2,3]
          ·refine cv h (fun h=>?_) (fun h=>?_)
           ·refine ag ?_;iterate 2 refine mq ?_
            refine ja (bf (t:=(.int .i64)) [(.tmp 51,_)] [J] rfl rfl dn (.cons rfl .int .nil) rfl rfl) ?_;obtain⟨S5,SL,h⟩:=aa h;refine fr 3 ?_;refine dN rfl rfl rfl (cx rfl rfl dn (ao SL)) ⟨rfl,rfl,trivial⟩ fun SX=>?_;refine aq (aE (bn ?_));exact jz (SX,j.1++[J]) h [1,2,3,0]
           ·refine bh (bn ?_);exact jz (l,j.1) h [0,1,2,3]
         ·refine ag ?_;obtain⟨SS,SG,h⟩:=aa h;refine jb (bB rfl SG) ?_;refine mq (nl ?_);exact jz (D,(U,SS)) h [0,1,2,3]
        ·refine xa ?_;exact jz (l,j.1) h [0,1,2,3]
       ·refine ag ?_;iterate 2 refine mq ?_
        refine fr 3 ?_;refine dX (iV [14,56] ⟨rfl,rfl,trivial⟩) ?_;refine ja (bf (t:=(.slice (.int .i64))) [(.tmp 56,_)] [M] rfl rfl oQ (.cons rfl .rep .nil) rfl rfl) ?_;obtain⟨SZ,SK,h⟩:=aa h;refine fr 2 ?_;refine dN rfl rfl rfl (cx rfl rfl oQ (ao SK)) ⟨rfl,rfl,trivial⟩ fun SV=>?_;refine aq (aE (bn ?_));exact jz (SV,c.1++[M]) h [1,2,0]
      ·refine ag ?_;obtain⟨SR,zz,h⟩:=aa h;refine jb (bB rfl zz) ?_;refine mq (nl ?_);exact jz (E,(X,SR)) h [0,1,2]
     ·refine xa ?_;exact jz (e,c.1) h [0,1,2]
    ·refine ag (fl eL ?_);refine lo lN ?_;refine mq ?_;refine fr 2 ?_;refine dX (iV [11,62] ⟨rfl,rfl,trivial⟩) ?_;refine ja (bf (t:=(.slice (.slice (.int .i64)))) [(.tmp 62,_)] [x9] rfl rfl zN (.cons rfl .rep .nil) rfl rfl) ?_;obtain⟨u32,SJ,h⟩:=aa h;refine fr 1 ?_;refine dN rfl rfl rfl (cx rfl rfl zN (ao SJ)) ⟨rfl,rfl,trivial⟩ fun SU=>?_;refine fl eL ?_;refine sd fun o34=>?_;refine fr 1 ?_;refine aU rfl rfl (aR rfl lN o34 rfl rfl) ⟨rfl,rfl,trivial⟩ ?_;refine aE (bn ?_);exact jz (SU,y4.1++[x9]) h [0,1]
   ·refine ag ?_;obtain⟨SQ,qt,h⟩:=aa h;refine jb (bB rfl qt) ?_;refine mq (nl ?_);exact jz (z7,(x6,SQ)) h [0,1]
  ·refine xa ?_;exact jz (z5,y4.1) h [0,1]
 ·
  refine sr (fr 1 ?_);refine dX (pW (off:=4) [] trivial rfl rfl) ?_;refine lo iZ ?_;obtain⟨mc,SN,h⟩:=aa h;have y:=nf k (a0.1,a0.2.1,a0.2.2.1,a0.2.2.2.1,x2,a0.2.2.2.2.2) mc SN;rcases hr:mc with _ |S7
  ·rw [hr] at h y;replace h:=ua h;refine ay (Δ:=[]) (F:=_) (fun _ _ _=>ae rfl _) rfl rfl (bv (N:=[(.tmp 67,.agg (.pair (I a0.1) (.pair (I a0.2.1) (.pair (I a0.2.2.1) (.pair (I a0.2.2.2.1) (.pair (.rep (.slice (.slice (.slice (.int .i64)))) x2) (Rs bP a0.2.2.2.2.2)))))))]) (ax [.tmp 67] rfl rfl Jy rfl y) fun _ _ _ hn=>⟨(aA (t:=ab) (x:=(a0.1,a0.2.1,a0.2.2.1,a0.2.2.2.1,x2,a0.2.2.2.2.2)) (.agg (.pair .int (.pair .int (.pair .int (.pair .int (.pair .rep .rep)))))) trivial rfl hn.1),trivial⟩) ⟨rfl,trivial⟩ fun _=>?_;refine aq (nt (aC ?_));cases h;exact aM (0,0) [.eq (.pointer none)] 0 ⟨rfl,trivial⟩ rfl
  ·rw [hr] at h y;replace h:=t9 h;refine ay (Δ:=[]) (F:=_) (fun _ _ _=>ae rfl _) rfl rfl (bv (N:=[(.tmp 67,.agg (.pair (I a0.1) (.pair (I a0.2.1) (.pair (I a0.2.2.1) (.pair (I a0.2.2.2.1) (.pair (.rep (.slice (.slice (.slice (.int .i64)))) x2) (Rs bP a0.2.2.2.2.2)))))))]) (ax [.tmp 67] rfl rfl Jy rfl y) fun _ _ _ hn=>⟨(aA (t:=ab) (x:=(a0.1,a0.2.1,a0.2.2.1,a0.2.2.2.1,x2,a0.2.2.2.2.2)) (.agg (.pair .int (.pair .int (.pair .int (.pair .int (.pair .rep .rep)))))) trivial rfl hn.1),trivial⟩) ⟨rfl,trivial⟩ fun Y=>?_;refine aq (nt (aC ?_));cases h;exact aM (Y.1,Y.2) [.eq (.pointer (some ⟨Y.1,0,none⟩))] 2 ⟨rfl,trivial⟩ rfl
def eA(k:Nat)(a0:ai)(r1:(List (List Int)))(y5:Int):Nat→Int→Option (Except Bool Unit)
 |0,_=>none
 |n+1,c=>
  if c < a0.1 then((((aX r1 y5).bind fun s=>
  (aX s c).bind fun r=>
  if r < 0 then((ck (y5+1)).bind fun l=>
  (aX r1 l).bind fun j=>
  (aX j c).bind fun h=>
  some (decide (h=0))) else(some false)):Option (Bool)).bind fun u=>
  if u=true then(some (.error true)) else((ck (c+1)).bind fun e=>
  eA k a0 r1 y5 n e)) else(some (.ok ()))
def eB(k:Nat)(a0:ai)(r1:(List (List Int))):Nat→Int→Option (Except Bool Unit)
 |0,_=>none
 |n+1,y5=>
  if y5 < (a0.2.2.2.2.1.length:Int) then(bE (α:=Unit) ((ck (y5+1)).bind fun x9=>
  (aX r1 x9).bind fun h=>
  (aX r1 y5).bind fun c=>
  (cJ (wq h∧wq c)).bind fun _=>
  if h=c then(some (.ok ())) else(eA k a0 r1 y5 k 0)) (fun e=>some (.error e)) fun _=>
  (ck (y5+1)).bind fun j=>
  eB k a0 r1 n j) else(some (.ok ()))
def iM(k:Nat)(a0:ai)(a1:Int)(a2:Int):Option Bool:=
 (lu k a0 a1).bind fun r1=>
 bE (α:=Unit) (eB k a0 r1 k a2) (some) fun _=>
 some false
theorem nO(k:Nat)(a0:ai)(c z_a0:Nat)(a1:Int)(a2:Int)(r:Bool)(h:iM k a0 a1 a2=some r):
 bX (dE Tryz.prog) 61 [Pt c,.eq (.int .u8 a1),I a2] [.obj c 109 (.pair (.rep ab a0) (.pair (.eq (.int .i32 0)) (.pair (.eq (.int .u32 0)) (.eq (.map (some z_a0)))))),.inv z_a0 (aI k a0)] (fun _:Unit=>(bI [.eq (.bool r)],[.obj c 109 (.pair (.rep ab a0) (.pair (.eq (.int .i32 0)) (.pair (.eq (.int .u32 0)) (.eq (.map (some z_a0)))))),.inv z_a0 (aI k a0)])):=by
 unfold iM at h
 replace h:=bo h
 refine bX.of 56 Tryz.func61 rfl Tryz.ntmps61 rfl fun S w0=>?_
 refine sr ?_
 refine cq ?_
 refine nt ?_
 refine sr ?_
 iterate 2 refine mq ?_
 obtain⟨r1,zz,h⟩:=aa h
 have SG:=eI k a0 c z_a0 a1 r1 zz
 refine fr 1 ?_
 refine fr 1 ?_
 refine ay (Δ:=[_,_]) (F:=_) (fun _ _ _=>ae rfl _) rfl rfl (aK [.tmp 10,.tmp 11] rfl rfl nX rfl SG) ⟨rfl,rfl,trivial⟩ fun _=>?_
 refine aZ rfl rfl rfl (bu rfl Ej Hj) trivial fun b2=>?_
 refine aU rfl rfl (aR rfl EW rfl rfl rfl) ⟨rfl,rfl,trivial⟩ ?_
 refine dX (jr (t:=(.arr 7 (.arr 5 (.int .i64)))) (x:=r1) [7] .rep ⟨rfl,trivial⟩) ?_
 refine nt ?_
 refine dx (Z:=Unit) (α:=Unit) (fun z4 x3=>[]) (fun z4 x3=>[.obj c 109 (.pair (.rep ab a0) (.pair (.eq (.int .i32 0)) (.pair (.eq (.int .u32 0)) (.eq (.map (some z_a0)))))),.inv z_a0 (aI k a0)]) (fun e=>e=r) h (fun e h=>Option.some.inj h) (fun K hR h=>?_) (fun z4 x3 h=>?_)
 ·
  refine sr (mq ?_);refine aq (nt (ak ?_));refine aH (fun z6 y5=>[(0,Pt c),(7,.at (.arr 7 (.arr 5 (.int .i64))) r1),(8,I y5)]) (fun z6 y5=>[.obj c 109 (.pair (.rep ab a0) (.pair (.eq (.int .i32 0)) (.pair (.eq (.int .u32 0)) (.eq (.map (some z_a0)))))),.inv z_a0 (aI k a0)]) (eB k a0 r1) k () a2 (fun _=>rfl) h (SE.fin [0,1] ⟨rfl,rfl,rfl,trivial⟩ rfl) (fun n z6 y5 h=>?_);unfold eB at h;refine am (sr ?_);iterate 2 refine mq ?_
  refine ja (cG rfl) ?_;refine fl gy ?_;refine fl eL ?_;refine lo lN ?_;refine ol AQ ?_;refine jb (bG rfl) ?_;refine nt (ci h (fun h=>?_) (fun h=>?_))
  ·refine sk (dx (Z:=Unit) (α:=Unit) (fun z8 x7=>[(0,Pt c),(7,.at (.arr 7 (.arr 5 (.int .i64))) r1),(8,I y5)]) (fun z8 x7=>[.obj c 109 (.pair (.rep ab a0) (.pair (.eq (.int .i32 0)) (.pair (.eq (.int .u32 0)) (.eq (.map (some z_a0)))))),.inv z_a0 (aI k a0)]) (fun e=>e=r) h (fun e h=>hR e h) (fun K hR h=>?_) (fun z8 x7 h=>?_))
   ·refine ak (am (am (cS ?_)));refine dm ?_;obtain⟨x9,qt,h⟩:=aa h;refine db (bB rfl qt) ?_;obtain⟨SN,gq,h⟩:=aa h;refine db (ce (t:=(.arr 5 (.int .i64))) rfl AP gB gq) ?_;refine da (av (t:=(.arr 5 (.int .i64))) rfl gB rfl) ?_;refine dm ?_;obtain⟨SL,Y,h⟩:=aa h;refine db (ce (t:=(.arr 5 (.int .i64))) rfl AP gB Y) ?_;refine da (av (t:=(.arr 5 (.int .i64))) rfl gB rfl) ?_;refine df eF ?_;obtain⟨SO,l,h⟩:=aa h;refine jb (FG rfl (ao l).1 (ao l).2) ?_;refine nt (ci h (fun h=>?_) (fun h=>?_))
    ·refine fU (bO (de (ap ?_)));exact jz ((),()) h [0,1]
    ·refine sk (sr (mq ?_));refine ja (cG rfl) ?_;refine fl gy ?_;refine fl eX ?_;refine lo bT ?_;refine dT rfl ?_;refine nt (ak (aH (fun D j=>[(0,Pt c),(7,.at (.arr 7 (.arr 5 (.int .i64))) r1),(8,I y5),(36,I a0.1),(37,I j)]) (fun D j=>[.obj c 109 (.pair (.rep ab a0) (.pair (.eq (.int .i32 0)) (.pair (.eq (.int .u32 0)) (.eq (.map (some z_a0)))))),.inv z_a0 (aI k a0)]) (eA k a0 r1 y5) k () 0 (fun _=>rfl) h (SE.fin [0,1] ⟨rfl,rfl,rfl,rfl,rfl,trivial⟩ rfl) (fun n D j h=>?_)));unfold eA at h;refine sr (jb (bG rfl) ?_);refine nt (am (ci h (fun h=>?_) (fun h=>?_)))
     ·refine sk (am (ak (sr (mq ?_))));refine aq (nt ?_);refine aJ (Z:=Unit) (α:=Bool) (fun y u=>[(0,Pt c),(7,.at (.arr 7 (.arr 5 (.int .i64))) r1),(8,I y5),(36,I a0.1),(37,I j),(54,.eq (.bool u))]) (fun y u=>[.obj c 109 (.pair (.rep ab a0) (.pair (.eq (.int .i32 0)) (.pair (.eq (.int .u32 0)) (.eq (.map (some z_a0)))))),.inv z_a0 (aI k a0)]) h (fun K h=>?_) (fun y u h=>?_)
      ·refine ag ?_;iterate 2 refine mq ?_
       obtain⟨SK,X,h⟩:=aa h;refine jb (ce (t:=(.arr 5 (.int .i64))) rfl AP gB X) ?_;obtain⟨SJ,U,h⟩:=aa h;refine jb (ce (t:=(.int .i64)) rfl zf bT U) ?_;refine ja (av (t:=(.int .i64)) rfl bT rfl) ?_;refine jb (bG rfl) ?_;refine mq ?_;refine cF (s:=46) rfl (fun hb=>?_) (fun hb=>?_)
       ·replace h:=eO (uU hb) h;refine gm ?_;obtain⟨SI,Q,h⟩:=aa h;refine gb (bB rfl Q) ?_;refine gm ?_;obtain⟨SH,O,h⟩:=aa h;refine gb (ce (t:=(.arr 5 (.int .i64))) rfl AP gB O) ?_;obtain⟨mw,M,h⟩:=aa h;refine gb (ce (t:=(.int .i64)) rfl zf bT M) ?_;refine ga (av (t:=(.int .i64)) rfl bT rfl) ?_;refine gb (jd rfl) ?_;refine pt (nl ?_);exact jz ((),decide (mw=0)) h [0,1]
       ·replace h:=cV (uV hb) h;iterate 7 refine gn ?_
        refine pf (nl ?_);exact jz ((),false) h [0,1]
      ·refine cv h (fun h=>?_) (fun h=>?_)
       ·refine sr (cq (nt (aC (br (bH (br (bH (bF ?_))))))));obtain rfl:=hR _ h;exact aM () [_] 2 ⟨rfl,trivial⟩ rfl
       ·refine bh (aS (tn (ag ?_)));obtain⟨mc,J,h⟩:=aa h;refine jb (bB rfl J) ?_;refine mq (nl ?_);exact jz ((),mc) h [0,1]
     ·refine fU (bO (bO (de (bn ?_))));exact jz ((),()) h [0,1]
   ·refine ag (mq ?_);obtain⟨gw,E,h⟩:=aa h;refine jb (bB rfl E) ?_;refine aq (nl ?_);exact jz ((),gw) h [0,1]
  ·refine xa ?_;exact jz ((),()) h [0,1]
 ·
  refine sr (cq (nt (aC ?_)));cases h;exact aM () [_] 2 ⟨rfl,trivial⟩ rfl
def mM(k:Nat)(a0:Int)(a1:ai)(a2:Int):Option Bool:=
 (iM k a1 a0 a2).bind fun r1=>
 some r1
theorem sO(k:Nat)(a0:Int)(a1:ai)(c z_a1 j:Nat)(a2:Int)(e:Nat)(r:Bool)(h:mM k a0 a1 a2=some r):
 bX (dE Tryz.prog) 60 [.eq (.int .u8 a0),Pt j,Pt e] [.obj c 109 (.pair (.rep ab a1) (.pair (.eq (.int .i32 0)) (.pair (.eq (.int .u32 0)) (.eq (.map (some z_a1)))))),.inv z_a1 (aI k a1),.obj j 62 (Pt c),.obj e 3 (I a2)] (fun _:Unit=>(bI [.eq (.bool r)],[.obj c 109 (.pair (.rep ab a1) (.pair (.eq (.int .i32 0)) (.pair (.eq (.int .u32 0)) (.eq (.map (some z_a1)))))),.inv z_a1 (aI k a1),.obj j 62 (Pt c),.obj e 3 (I a2)])):=by
 unfold mM at h
 replace h:=bo h
 refine bX.of 9 Tryz.func60 rfl Tryz.ntmps60 rfl fun S w0=>?_
 refine sr ?_
 refine cq ?_
 refine nt ?_
 refine sr ?_
 refine fr 2 ?_
 refine lo EX ?_
 refine mq ?_
 refine fr 3 ?_
 refine lo bT ?_
 obtain⟨r1,l,h⟩:=aa h
 have n:=nO k a1 c z_a1 a0 a2 r1 l
 refine fr 3 ?_
 refine fr 3 ?_
 refine ay (Δ:=[_,_]) (F:=_) (fun _ _ _=>ae rfl _) rfl rfl (aK [.tmp 5,.tmp 6,.tmp 7] rfl rfl QW rfl n) ⟨rfl,rfl,rfl,trivial⟩ fun _=>?_
 refine aq ?_
 refine nt ?_
 refine aC ?_
 refine b8 (SE.fin (Γ':=[(4,_)]) [0,1,3,2] ⟨rfl,trivial⟩ rfl) ?_
 cases h
 exact aM () [_] 4 ⟨rfl,trivial⟩ rfl
def eh(k:Nat)(a0:(List Int))(a1_0:ai)(a1_1:Int):Nat→Int→Option (Except Int Unit)
 |0,_=>none
 |n+1,y3=>
  if y3 < (a0.length:Int) then((aX a0 y3).bind fun x5=>
  (mM k x5 a1_0 a1_1).bind fun r6=>
  if r6=true then(some (.error y3)) else((ck (y3+1)).bind fun x7=>
  eh k a0 a1_0 a1_1 n x7)) else(some (.ok ()))
def iH(k:Nat)(a0:(List Int))(a1_0:ai)(a1_1:Int):Option Int:=
 bE (α:=Unit) (eh k a0 a1_0 a1_1 k 0) (some) fun _=>
 some (-1:Int)
theorem nE(k:Nat)(a0:(List Int))(a1_0:ai)(b_a1_0 z_a1_0 c_a1_0:Nat)(a1_1:Int)(c_a1_1:Nat)(r:Int)(h:iH k a0 a1_0 a1_1=some r):
 bX (dE Tryz.prog) 79 [.rep (.slice (.int .u8)) a0,.eq (.func (.func 60) #[] #[(Pv c_a1_0),(Pv c_a1_1)])] [.obj b_a1_0 109 (.pair (.rep ab a1_0) (.pair (.eq (.int .i32 0)) (.pair (.eq (.int .u32 0)) (.eq (.map (some z_a1_0)))))),.inv z_a1_0 (aI k a1_0),.obj c_a1_0 62 (Pt b_a1_0),.obj c_a1_1 3 (I a1_1)] (fun _:Unit=>(bI [I r],[.obj b_a1_0 109 (.pair (.rep ab a1_0) (.pair (.eq (.int .i32 0)) (.pair (.eq (.int .u32 0)) (.eq (.map (some z_a1_0)))))),.inv z_a1_0 (aI k a1_0),.obj c_a1_0 62 (Pt b_a1_0),.obj c_a1_1 3 (I a1_1)])):=by
 unfold iH at h
 replace h:=bo h
 refine bX.of 19 Tryz.func79 rfl Tryz.ntmps79 rfl fun S w0=>?_
 refine sr ?_
 refine cq ?_
 refine nt ?_
 refine dx (Z:=Unit) (α:=Unit) (fun z2 x1=>[]) (fun z2 x1=>[.obj b_a1_0 109 (.pair (.rep ab a1_0) (.pair (.eq (.int .i32 0)) (.pair (.eq (.int .u32 0)) (.eq (.map (some z_a1_0)))))),.inv z_a1_0 (aI k a1_0),.obj c_a1_0 62 (Pt b_a1_0),.obj c_a1_1 3 (I a1_1)]) (fun e=>e=r) h (fun e h=>Option.some.inj h) (fun K hR h=>?_) (fun z2 x1 h=>?_)
 ·
  refine sr (mq ?_);refine ol vS ?_;refine dT rfl ?_;refine nt (ak (aH (fun z4 y3=>[(0,.rep (.slice (.int .u8)) a0),(1,.eq (.func (.func 60) #[] #[(Pv c_a1_0),(Pv c_a1_1)])),(7,I (a0.length:Int)),(8,I y3)]) (fun z4 y3=>[.obj c_a1_0 62 (Pt b_a1_0),.obj b_a1_0 109 (.pair (.rep ab a1_0) (.pair (.eq (.int .i32 0)) (.pair (.eq (.int .u32 0)) (.eq (.map (some z_a1_0)))))),.obj c_a1_1 3 (I a1_1),.inv z_a1_0 (aI k a1_0)]) (eh k a0 a1_0 a1_1) k () 0 (fun _=>rfl) h (SE.fin [2,0,3,1] ⟨rfl,rfl,rfl,rfl,trivial⟩ rfl) (fun n z4 y3 h=>?_)));unfold eh at h;refine sr (jb (bG rfl) ?_);refine nt (am (ci h (fun h=>?_) (fun h=>?_)))
  ·refine sk (am (ak (sr (mq ?_))));refine aq (nt (sr ?_));iterate 3 refine mq ?_
   obtain⟨x5,j,h⟩:=aa h;refine jb (be (t:=(.int .u8)) rfl vS pg j) ?_;refine ja (av (t:=(.int .u8)) rfl pg rfl) ?_;obtain⟨r6,l,h⟩:=aa h;refine fr 2 ?_;refine fr 1 ?_;refine fr 3 ?_;refine fr 3 ?_;refine ay (Δ:=[_,_,_,_]) (F:=_) (fun _ _ _=>ae rfl _) rfl rfl (qx (fs:=[]) (cs:=[(Pv c_a1_0),(Pv c_a1_1)]) (ags:=[.eq (.int .u8 x5)]) [.tmp 15] rfl rfl QX rfl (sO k x5 a1_0 b_a1_0 z_a1_0 c_a1_0 a1_1 c_a1_1 r6 l)) ⟨rfl,rfl,trivial⟩ fun _=>?_;refine nt (cv h (fun h=>?_) (fun h=>?_))
   ·refine sr (mq ?_);refine aq (nt (aC (br (bH (bF ?_)))));obtain rfl:=hR _ h;exact aM () [_] 4 ⟨rfl,trivial⟩ rfl
   ·refine bh (aS (tn (ag ?_)));obtain⟨x7,c,h⟩:=aa h;refine jb (bB rfl c) ?_;refine mq (nl ?_);exact jz ((),x7) h [2,0,3,1]
  ·refine xa ?_;exact jz ((),()) h [1,3,0,2]
 ·
  refine sr (cq (nt (aC ?_)));cases h;exact aM () [_] 4 ⟨rfl,trivial⟩ rfl
def cZ(k:Nat)(a0:(List Int))(a1_0:ai)(a1_1:Int):Option Bool:=
 (iH k a0 a1_0 a1_1).bind fun r1=>
 some (decide (0≤r1))
theorem io(k:Nat)(a0:(List Int))(a1_0:ai)(b_a1_0 z_a1_0 c_a1_0:Nat)(a1_1:Int)(c_a1_1:Nat)(r:Bool)(h:cZ k a0 a1_0 a1_1=some r):
 bX (dE Tryz.prog) 62 [.rep (.slice (.int .u8)) a0,.eq (.func (.func 60) #[] #[(Pv c_a1_0),(Pv c_a1_1)])] [.obj b_a1_0 109 (.pair (.rep ab a1_0) (.pair (.eq (.int .i32 0)) (.pair (.eq (.int .u32 0)) (.eq (.map (some z_a1_0)))))),.inv z_a1_0 (aI k a1_0),.obj c_a1_0 62 (Pt b_a1_0),.obj c_a1_1 3 (I a1_1)] (fun _:Unit=>(bI [.eq (.bool r)],[.obj b_a1_0 109 (.pair (.rep ab a1_0) (.pair (.eq (.int .i32 0)) (.pair (.eq (.int .u32 0)) (.eq (.map (some z_a1_0)))))),.inv z_a1_0 (aI k a1_0),.obj c_a1_0 62 (Pt b_a1_0),.obj c_a1_1 3 (I a1_1)])):=by
 unfold cZ at h
 replace h:=bo h
 refine bX.of 9 Tryz.func62 rfl Tryz.ntmps62 rfl fun S w0=>?_
 refine sr ?_
 refine cq ?_
 refine nt ?_
 refine sr ?_
 iterate 2 refine mq ?_
 obtain⟨r1,c,h⟩:=aa h
 have e:=nE k a0 a1_0 b_a1_0 z_a1_0 c_a1_0 a1_1 c_a1_1 r1 c
 refine fr 3 ?_
 refine fr 3 ?_
 refine fr 3 ?_
 refine fr 3 ?_
 refine ay (Δ:=[_,_,_,_]) (F:=_) (fun _ _ _=>ae rfl _) rfl rfl (aK [.tmp 5,.tmp 6] rfl rfl QR rfl e) ⟨rfl,rfl,trivial⟩ fun _=>?_
 refine jb (i9 rfl) ?_
 refine aq ?_
 refine nt ?_
 refine aC ?_
 cases h
 exact aM () [_] 4 ⟨rfl,trivial⟩ rfl
def pH(k:Nat)(a0:ai)(a1:Int):Option ((List Int)×Int):=
 (l9 k a0 ([]:(List Int)) [a1] ([]:(List Int))).bind fun r3=>
 fa r3.1 (if¬(r3.2.2=0) then(some (([]:(List Int)),r3.2.2)) else((jI k (so (fun(y8:(List Int)) (h:Int)=>
  (ji k a0 a1 h).bind fun E=>
  fa E (none) (fun I=>(cZ k r3.2.1 I a1).bind fun D=>
  if¬(D=true) then((cJ (cu (List.length y8+List.length [h]))).bind fun _=>
  some (y8++[h],true)) else(some (y8,true))))) a0.1 (([]:(List Int)),false)).bind fun l=>
 if l.2=true then(none) else((mL k l.1).bind fun y=>
 (gi k y).bind fun x=>
 some (x,0)))) (fun q4=>if¬(r3.2.2=0) then(some (([]:(List Int)),r3.2.2)) else((jI k (so (fun(c:(List Int)) (e:Int)=>
  (ji k a0 a1 e).bind fun u=>
  fa u (none) (fun F=>(cZ k r3.2.1 F a1).bind fun s=>
  if¬(s=true) then((cJ (cu (List.length c+List.length [e]))).bind fun _=>
  some (c++[e],true)) else(some (c,true))))) a0.1 (([]:(List Int)),false)).bind fun j=>
 if j.2=true then(none) else((mL k j.1).bind fun r=>
 (gi k r).bind fun n=>
 some (n,0))))
theorem uR(k:Nat)(a0:ai)(a1:Int)(r:(List Int)×Int)(h:pH k a0 a1=some r):
 bX (dE Tryz.prog) 33 [.rep ab a0,I a1] [] (fun _:Unit=>(bI [Ri r.1,I r.2],[])):=by
 unfold pH at h
 replace h:=bo h
 refine uB 44 Tryz.func33 rfl Tryz.ntmps33 rfl fun S w0=>?_
 refine sr ?_
 refine bx fun b1=>?_
 refine bx fun b2=>?_
 refine cq ?_
 refine cq ?_
 refine nt ?_
 refine sr ?_
 refine fr 1 ?_
 refine lo iZ ?_
 refine fr 1 ?_
 refine lo bT ?_
 refine ja (bf (t:=(.int .i64)) [(.tmp 15,_)] [a1] rfl rfl dn (.cons rfl .int .nil) rfl rfl) ?_
 obtain⟨r3,Ti,h⟩:=aa h
 have gq:=mJ k a0 ([]:(List Int)) [a1] ([]:(List Int)) r3 Ti
 rcases hr:r3.1 with _ |q4
 ·
  rw [hr] at h gq;replace h:=ua h;refine ay (Δ:=[]) (F:=_) (fun _ _ _=>ae rfl _) rfl rfl (bv (N:=[(.tmp 14,.rep ab a0),(.const (.slice none 0 0),.eq (.slice none 0 0)),(.tmp 16,Ri [a1]),(.const (.slice none 0 0),.eq (.slice none 0 0))]) (aK [.tmp 14,.const (.slice none 0 0),.tmp 16,.const (.slice none 0 0)] rfl rfl Du rfl gq) fun _ _ _ hn=>⟨hn.1,(aA (t:=(.slice (.int .i64))) (x:=([]:(List Int))) .nil rfl rfl hn.2.1),hn.2.2.1,(aA (t:=(.slice (.int .i64))) (x:=([]:(List Int))) .nil rfl rfl hn.2.2.2.1),trivial⟩) ⟨rfl,rfl,rfl,rfl,trivial⟩ fun _=>?_;refine mq ?_;refine xr ?_;refine xr ?_;refine xr ?_;refine aZ rfl rfl rfl (bu rfl Ei Hh) trivial fun b5=>?_;refine aq ?_;refine aU rfl rfl (aR rfl ri rfl rfl rfl) ⟨rfl,rfl,trivial⟩ ?_;refine aq (nt (am (sr ?_)));refine mq ?_;refine jb (eR rfl) ?_;refine nt (cn h (fun h=>?_) (fun h=>?_))
  ·refine sr (mq ?_);refine cq ?_;refine aq (nt (rx ?_));refine b8 (d4 (t:=(.slice (.int .i64))) (x:=([]:(List Int))) 4 rfl .nil rfl rfl) ?_;refine zl ?_;cases h;exact rb
  ·refine sk (sr (aZ rfl rfl rfl (bu rfl Ei Hh) trivial fun b6=>?_));refine nt (am (sr (fl eX ?_)));refine fr 3 ?_;refine lo bT ?_;refine aZ rfl rfl rfl (ax [.tmp 25] rfl rfl MZ rfl (mI a0.1)) ⟨rfl,trivial⟩ fun b7=>?_;refine nt (ak (gX (SE.nil 63 (.int .u8)) ?_));refine cK 5 rfl ?_;refine cK 5 rfl ?_;refine cK 2 rfl ?_;refine cK 5 rfl ?_;refine cK 5 rfl ?_;refine cK 5 rfl ?_;obtain⟨Z,SZ,h⟩:=aa h;refine mZ (Δ:=[.obj b7 3 (I a0.1),.obj b1 28 (.rep ab a0),.obj b6 87 (.eq (.slice none 0 0)),.sl (.slice none 0 0) 63 (.int .u8) ([]:(List Int)),.obj b5 87 (.rep (.slice (.int .u8)) r3.2.1),.obj b2 3 (I a1)]) (F:=[]) (X:=Value) (J:=fun _=>Jo Z.2) (E:=fun z9=>[.obj b7 3 (I a0.1),.obj b1 28 (.rep ab a0),.obj b6 87 (.eq z9),.sl z9 63 (.int .u8) Z.1,.obj b5 87 (.rep (.slice (.int .u8)) r3.2.1),.obj b2 3 (I a1)]) (r0:=fun _=>.tup .any) rfl rfl MX (fun rec hp ha hb hs hpe hN hv l=>?_) (fun dl z9=>pi (fun hj=>?_) (fun hj=>?_))
   ·rcases rec with⟨st0,pe0,fn0,tm0,ps0,as0,bd0,df0⟩;dsimp only at hp ha hb hs hpe hN hv;subst hp hs hpe;have vN:xk tm0 [(2,Pt b1),(3,Pt b2),(7,Pt b5),(9,Pt b6)]:=⟨congrArg A.eq (hv 2 _ rfl).symm,congrArg A.eq (hv 3 _ rfl).symm,congrArg A.eq (hv 7 _ rfl).symm,congrArg A.eq (hv 9 _ rfl).symm,trivial⟩;refine bX.pick (M:=(dE Tryz.prog)) [1,0,2,3,4,5,6] [1,0,2,3,4,5,6] (kV (fun(z9:Value) (q:(List Int)×Bool)=>[.raw l (.loop (iI ⟨.ready,none,fn0,tm0, #[27],as0,bd0,df0⟩ (Jo q.2))),.obj b1 28 (.rep ab a0),.obj b6 87 (.eq z9),.sl z9 63 (.int .u8) q.1,.obj b5 87 (.rep (.slice (.int .u8)) r3.2.1),.obj b2 3 (I a1)]) l (so (fun(y8:(List Int)) (u:Int)=>
    (ji k a0 a1 u).bind fun Y=>
    fa Y (none) (fun qt=>(cZ k r3.2.1 qt a1).bind fun mc=>
    if¬(mc=true) then((cJ (cu (List.length y8+List.length [u]))).bind fun _=>
    some (y8++[u],true)) else(some (y8,true))))) k a0.1 b7 (fun z9 q p r' h=>?_) (.slice none 0 0) (([]:(List Int)),false) Z SZ) rfl (fun _=>rfl) (fun _=>rfl)
    obtain⟨rq,hq,h2,rfl⟩:=pj h;obtain⟨y8,b5⟩:=q;obtain rfl:b5=false:=hq;replace h:=bo h2;obtain⟨u,hpv⟩:∃x,x=p:=⟨_,rfl⟩;subst hpv;refine YT.pick (R':=(fun z9:Value=>(.eq (.bool rq.2),[.raw l (.loop (iI ⟨.ready,none,fn0,tm0, #[27],as0,bd0,df0⟩ (Jo (!rq.2)))),.obj b1 28 (.rep ab a0),.obj b6 87 (.eq z9),.sl z9 63 (.int .u8) rq.1,.obj b5 87 (.rep (.slice (.int .u8)) r3.2.1),.obj b2 3 (I a1)]))) [0,1,2,3,4,5] [0,1,2,3,4,5] (AN ha hb (N:=44) (Γ:=[(2,Pt b1),(3,Pt b2),(7,Pt b5),(9,Pt b6)]) rfl hN (by decide) vN (fun S w=>?_)) rfl (fun _=>rfl) (fun _=>rfl);refine ag (aq (nl ?_));refine ux rfl rfl ?_;refine ak (sr (fr 1 ?_));refine lo iZ ?_;refine fr 5 ?_;refine lo bT ?_;refine mq ?_;obtain⟨Y,SY,h⟩:=aa h;have n:=o5 k a0 a1 u Y SY;rcases hr:Y with _ |qt
    ·rw [hr] at h n;replace h:=ua h;refine ay (Δ:=[]) (F:=_) (fun _ _ _=>ae rfl _) rfl rfl (ax [.tmp 28,.tmp 29,.tmp 30] rfl rfl Jx rfl n) ⟨rfl,rfl,rfl,trivial⟩ fun _=>?_;cases h
    ·rw [hr] at h n;replace h:=t9 h;refine ay (Δ:=[]) (F:=_) (fun _ _ _=>ae rfl _) rfl rfl (ax [.tmp 28,.tmp 29,.tmp 30] rfl rfl Jx rfl n) ⟨rfl,rfl,rfl,trivial⟩ fun SH=>?_;refine aZ rfl rfl rfl (bu rfl N3 PH) trivial fun S7=>?_;refine aU rfl rfl (aR rfl EX rfl rfl rfl) ⟨rfl,rfl,trivial⟩ ?_;refine nt (sr (jb (pw [] [.tmp 11,.tmp 3] [] [(Pv S7),(Pv b2)] rfl rfl rfl) ?_));refine aq (nt (sr ?_));refine fr 8 ?_;refine lo ri ?_;refine mq ?_;obtain⟨mc,SX,h⟩:=aa h;refine fr 4 ?_;refine fr 2 ?_;refine fr 4 ?_;refine fr 4 ?_;refine ay (Δ:=[_,_,_,_]) (F:=_) (fun _ _ _=>ae rfl _) rfl rfl (aK [.tmp 33,.tmp 34] rfl rfl O7 rfl (io k r3.2.1 qt SH.1 SH.2 S7 a1 b2 mc SX)) ⟨rfl,rfl,trivial⟩ fun _=>?_;refine ja (gJ rfl) ?_;refine nt (cw h (fun h=>?_) (fun h=>?_))
     ·refine ag (fr 7 ?_);refine lo ri ?_;refine mq ?_;refine ja (bf (t:=(.int .u8)) [(.tmp 38,_)] [u] rfl rfl C7 (.cons rfl .int .nil) rfl rfl) ?_;obtain⟨Tm,SL,h⟩:=aa h;refine fr 8 ?_;refine dN rfl rfl rfl (cx rfl rfl C7 (ao SL)) ⟨rfl,rfl,trivial⟩ fun Ta=>?_;refine sd fun o20=>?_;refine fr 1 ?_;refine aU rfl rfl (aR rfl ri o20 rfl rfl) ⟨rfl,rfl,trivial⟩ ?_;refine aE (aS (aO 5 rfl ?_));refine aO 6 rfl ?_;refine aO 3 rfl ?_;refine aO 3 rfl ?_;refine aO 7 rfl ?_;refine aO 8 rfl ?_;cases h;exact kE Ta 5 rfl
     ·refine bh (aS (aO 3 rfl ?_));refine aO 4 rfl ?_;refine aO 8 rfl ?_;refine aO 8 rfl ?_;refine aO 7 rfl ?_;refine aO 8 rfl ?_;cases h;exact kE z9 5 rfl
   ·replace h:=cV (KQ hj) h;refine aS (tn (sr (fr 3 ?_)));refine lo ri ?_;obtain⟨SJ,SV,h⟩:=aa h;refine fr 4 ?_;refine kb (gf (N:=[(.tmp 41,.eq z9),(.func 64,.eq (.func (.func 64) #[] #[]))]) (ax [.tmp 41,.func 64] rfl rfl O6 rfl (o6 k Z.1 SJ SV)) (fun _ _ _ hv hn=>⟨(lend hn.1 hv),hn.2.1,trivial⟩) (fun _=>⟨rfl,jK⟩)) ?_;obtain⟨Tf,SU,h⟩:=aa h;refine ja (ax [.tmp 42] rfl rfl JA rfl (g7 k SJ Tf SU)) ?_;refine aq ?_;refine cq (nt (aC ?_));refine aO 2 rfl ?_;refine xo ?_;cases h;exact rb
   ·replace h:=eO (KO hj) h;cases h
 ·
  rw [hr] at h gq;replace h:=t9 h;refine ay (Δ:=[]) (F:=_) (fun _ _ _=>ae rfl _) rfl rfl (bv (N:=[(.tmp 14,.rep ab a0),(.const (.slice none 0 0),.eq (.slice none 0 0)),(.tmp 16,Ri [a1]),(.const (.slice none 0 0),.eq (.slice none 0 0))]) (aK [.tmp 14,.const (.slice none 0 0),.tmp 16,.const (.slice none 0 0)] rfl rfl Du rfl gq) fun _ _ _ hn=>⟨hn.1,(aA (t:=(.slice (.int .i64))) (x:=([]:(List Int))) .nil rfl rfl hn.2.1),hn.2.2.1,(aA (t:=(.slice (.int .i64))) (x:=([]:(List Int))) .nil rfl rfl hn.2.2.2.1),trivial⟩) ⟨rfl,rfl,rfl,rfl,trivial⟩ fun e=>?_;refine mq ?_;refine xr ?_;refine xr ?_;refine xr ?_;refine aZ rfl rfl rfl (bu rfl Ei Hh) trivial fun D=>?_;refine aq ?_;refine aU rfl rfl (aR rfl ri rfl rfl rfl) ⟨rfl,rfl,trivial⟩ ?_;refine aq (nt (am (sr ?_)));refine mq ?_;refine jb (eR rfl) ?_;refine nt (cn h (fun h=>?_) (fun h=>?_))
  ·refine sr (mq ?_);refine cq ?_;refine aq (nt (rx ?_));refine b8 (d4 (t:=(.slice (.int .i64))) (x:=([]:(List Int))) 4 rfl .nil rfl rfl) ?_;refine zl ?_;cases h;exact rb
  ·refine sk (sr (aZ rfl rfl rfl (bu rfl Ei Hh) trivial fun y=>?_));refine nt (am (sr (fl eX ?_)));refine fr 5 ?_;refine lo bT ?_;refine aZ rfl rfl rfl (ax [.tmp 25] rfl rfl MZ rfl (mI a0.1)) ⟨rfl,trivial⟩ fun zz=>?_;refine nt (ak (gX (SE.nil 63 (.int .u8)) ?_));refine cK 7 rfl ?_;refine cK 7 rfl ?_;refine cK 7 rfl ?_;refine cK 7 rfl ?_;refine cK 4 rfl ?_;refine cK 7 rfl ?_;refine cK 7 rfl ?_;refine cK 7 rfl ?_;obtain⟨U,SS,h⟩:=aa h;refine mZ (Δ:=[.obj zz 3 (I a0.1),.obj b1 28 (.rep ab a0),.obj y 87 (.eq (.slice none 0 0)),.sl (.slice none 0 0) 63 (.int .u8) ([]:(List Int)),.obj D 87 (.rep (.slice (.int .u8)) r3.2.1),.obj e.1 109 (.pair (.rep ab q4) (.pair (.eq (.int .i32 0)) (.pair (.eq (.int .u32 0)) (.eq (.map (some e.2)))))),.inv e.2 (aI k q4),.obj b2 3 (I a1)]) (F:=[]) (X:=Value) (J:=fun _=>Jo U.2) (E:=fun c=>[.obj zz 3 (I a0.1),.obj b1 28 (.rep ab a0),.obj y 87 (.eq c),.sl c 63 (.int .u8) U.1,.obj D 87 (.rep (.slice (.int .u8)) r3.2.1),.obj e.1 109 (.pair (.rep ab q4) (.pair (.eq (.int .i32 0)) (.pair (.eq (.int .u32 0)) (.eq (.map (some e.2)))))),.inv e.2 (aI k q4),.obj b2 3 (I a1)]) (r0:=fun _=>.tup .any) rfl rfl MX (fun rec hp ha hb hs hpe hN hv l=>?_) (fun dl c=>pi (fun hj=>?_) (fun hj=>?_))
   ·rcases rec with⟨st0,pe0,fn0,tm0,ps0,as0,bd0,df0⟩;dsimp only at hp ha hb hs hpe hN hv;subst hp hs hpe;have vN:xk tm0 [(2,Pt b1),(3,Pt b2),(7,Pt D),(9,Pt y)]:=⟨congrArg A.eq (hv 2 _ rfl).symm,congrArg A.eq (hv 3 _ rfl).symm,congrArg A.eq (hv 7 _ rfl).symm,congrArg A.eq (hv 9 _ rfl).symm,trivial⟩;refine bX.pick (M:=(dE Tryz.prog)) [1,0,2,3,4,5,6,7,8] [1,0,2,3,4,5,6,7,8] (kV (fun(c:Value) (q:(List Int)×Bool)=>[.raw l (.loop (iI ⟨.ready,none,fn0,tm0, #[27],as0,bd0,df0⟩ (Jo q.2))),.obj b1 28 (.rep ab a0),.obj y 87 (.eq c),.sl c 63 (.int .u8) q.1,.obj D 87 (.rep (.slice (.int .u8)) r3.2.1),.obj e.1 109 (.pair (.rep ab q4) (.pair (.eq (.int .i32 0)) (.pair (.eq (.int .u32 0)) (.eq (.map (some e.2)))))),.inv e.2 (aI k q4),.obj b2 3 (I a1)]) l (so (fun(O:(List Int)) (s:Int)=>
    (ji k a0 a1 s).bind fun Q=>
    fa Q (none) (fun mw=>(cZ k r3.2.1 mw a1).bind fun gw=>
    if¬(gw=true) then((cJ (cu (List.length O+List.length [s]))).bind fun _=>
    some (O++[s],true)) else(some (O,true))))) k a0.1 zz (fun c q p r' h=>?_) (.slice none 0 0) (([]:(List Int)),false) U SS) rfl (fun _=>rfl) (fun _=>rfl)
    obtain⟨rq,hq,h2,rfl⟩:=pj h;obtain⟨O,b5⟩:=q;obtain rfl:b5=false:=hq;replace h:=bo h2;obtain⟨s,hpv⟩:∃x,x=p:=⟨_,rfl⟩;subst hpv;refine YT.pick (R':=(fun c:Value=>(.eq (.bool rq.2),[.raw l (.loop (iI ⟨.ready,none,fn0,tm0, #[27],as0,bd0,df0⟩ (Jo (!rq.2)))),.obj b1 28 (.rep ab a0),.obj y 87 (.eq c),.sl c 63 (.int .u8) rq.1,.obj D 87 (.rep (.slice (.int .u8)) r3.2.1),.obj e.1 109 (.pair (.rep ab q4) (.pair (.eq (.int .i32 0)) (.pair (.eq (.int .u32 0)) (.eq (.map (some e.2)))))),.inv e.2 (aI k q4),.obj b2 3 (I a1)]))) [0,1,2,3,4,5,6,7] [0,1,2,3,4,5,6,7] (AN ha hb (N:=44) (Γ:=[(2,Pt b1),(3,Pt b2),(7,Pt D),(9,Pt y)]) rfl hN (by decide) vN (fun S w=>?_)) rfl (fun _=>rfl) (fun _=>rfl);refine ag (aq (nl ?_));refine ux rfl rfl ?_;refine ak (sr (fr 1 ?_));refine lo iZ ?_;refine fr 7 ?_;refine lo bT ?_;refine mq ?_;obtain⟨Q,SR,h⟩:=aa h;have j:=o5 k a0 a1 s Q SR;rcases hr:Q with _ |mw
    ·rw [hr] at h j;replace h:=ua h;refine ay (Δ:=[]) (F:=_) (fun _ _ _=>ae rfl _) rfl rfl (ax [.tmp 28,.tmp 29,.tmp 30] rfl rfl Jx rfl j) ⟨rfl,rfl,rfl,trivial⟩ fun _=>?_;cases h
    ·rw [hr] at h j;replace h:=t9 h;refine ay (Δ:=[]) (F:=_) (fun _ _ _=>ae rfl _) rfl rfl (ax [.tmp 28,.tmp 29,.tmp 30] rfl rfl Jx rfl j) ⟨rfl,rfl,rfl,trivial⟩ fun SG=>?_;refine aZ rfl rfl rfl (bu rfl N3 PH) trivial fun S5=>?_;refine aU rfl rfl (aR rfl EX rfl rfl rfl) ⟨rfl,rfl,trivial⟩ ?_;refine nt (sr (jb (pw [] [.tmp 11,.tmp 3] [] [(Pv S5),(Pv b2)] rfl rfl rfl) ?_));refine aq (nt (sr ?_));refine fr 8 ?_;refine lo ri ?_;refine mq ?_;obtain⟨gw,SQ,h⟩:=aa h;refine fr 4 ?_;refine fr 2 ?_;refine fr 4 ?_;refine fr 4 ?_;refine ay (Δ:=[_,_,_,_]) (F:=_) (fun _ _ _=>ae rfl _) rfl rfl (aK [.tmp 33,.tmp 34] rfl rfl O7 rfl (io k r3.2.1 mw SG.1 SG.2 S5 a1 b2 gw SQ)) ⟨rfl,rfl,trivial⟩ fun _=>?_;refine ja (gJ rfl) ?_;refine nt (cw h (fun h=>?_) (fun h=>?_))
     ·refine ag (fr 7 ?_);refine lo ri ?_;refine mq ?_;refine ja (bf (t:=(.int .u8)) [(.tmp 38,_)] [s] rfl rfl C7 (.cons rfl .int .nil) rfl rfl) ?_;obtain⟨Tj,SK,h⟩:=aa h;refine fr 8 ?_;refine dN rfl rfl rfl (cx rfl rfl C7 (ao SK)) ⟨rfl,rfl,trivial⟩ fun S9=>?_;refine sd fun o39=>?_;refine fr 1 ?_;refine aU rfl rfl (aR rfl ri o39 rfl rfl) ⟨rfl,rfl,trivial⟩ ?_;refine aE (aS (aO 5 rfl ?_));refine aO 10 rfl ?_;refine aO 10 rfl ?_;refine aO 8 rfl ?_;refine aO 5 rfl ?_;refine aO 5 rfl ?_;refine aO 9 rfl ?_;refine aO 10 rfl ?_;cases h;exact kE S9 7 rfl
     ·refine bh (aS (aO 3 rfl ?_));refine aO 10 rfl ?_;refine aO 10 rfl ?_;refine aO 6 rfl ?_;refine aO 10 rfl ?_;refine aO 10 rfl ?_;refine aO 9 rfl ?_;refine aO 10 rfl ?_;cases h;exact kE c 7 rfl
   ·replace h:=cV (KQ hj) h;refine aS (tn (sr (fr 3 ?_)));refine lo ri ?_;obtain⟨SI,SO,h⟩:=aa h;refine fr 4 ?_;refine kb (gf (N:=[(.tmp 41,.eq c),(.func 64,.eq (.func (.func 64) #[] #[]))]) (ax [.tmp 41,.func 64] rfl rfl O6 rfl (o6 k U.1 SI SO)) (fun _ _ _ hv hn=>⟨(lend hn.1 hv),hn.2.1,trivial⟩) (fun _=>⟨rfl,jK⟩)) ?_;obtain⟨Td,SN,h⟩:=aa h;refine ja (ax [.tmp 42] rfl rfl JA rfl (g7 k SI Td SN)) ?_;refine aq ?_;refine cq (nt (aC ?_));refine aO 2 rfl ?_;refine xo ?_;cases h;exact rb
   ·replace h:=eO (KO hj) h;cases h
def qI(k:Nat):Option Bool:=
 (ir k ([]:(List cE))).bind fun r1=>
 (fB k r1 [0]).bind fun r2=>
 (ir k ([]:(List cE))).bind fun r3=>
 (pI k r3).bind fun r4=>
 (ir k ([]:(List cE))).bind fun r5=>
 (rK k r5 2).bind fun r6=>
 (ir k ([]:(List cE))).bind fun r8=>
 (rL k r8 [0] 3).bind fun r9=>
 (ir k ([]:(List cE))).bind fun u=>
 (tO k u 2).bind fun c=>
 (ir k ([]:(List cE))).bind fun s=>
 (pH k s 2).bind fun e=>
 ((if r2.2=0 then(if r4.2=0 then(if r6.2=0 then(if r9.2=0 then(if c.2.2=0 then(if e.2=0 then(if r6.1=(1,3) then(if c.1=2 then(if c.2.1=2 then((jC k r2.1 [[1,(-1:Int),(-1:Int),(-1:Int)],[2,0,(-1:Int),(-1:Int)],[3,1,(-1:Int),(-1:Int)],[3,2,0,(-1:Int)],[(-1:Int),3,1,0]]).bind fun r=>
 if r=true then((jC k r4.1 [[0],[0,1],[1]]).bind fun n=>
 if n=true then((iQ k r9.1 [0,1,3]).bind fun l=>
 if l=true then((iQ k e.1 [1,2]).bind fun j=>
 some j) else(some false)) else(some false)) else(some false)) else(some false)) else(some false)) else(some false)) else(some false)) else(some false)) else(some false)) else(some false)) else(some false)) else(some false)):Option (Bool)).bind fun h=>
 some h
theorem yD(k:Nat)(r:Bool)(h:qI k=some r):
 bX (dE Tryz.prog) 13 [] [] (fun _:Unit=>(bI [.eq (.bool r)],[])):=by
 unfold qI at h
 replace h:=bo h
 refine bX.of 110 Tryz.func13 rfl Tryz.ntmps13 rfl fun S w0=>?_
 refine sr ?_
 refine cq ?_
 refine nt ?_
 refine sr ?_
 obtain⟨r1,SL,h⟩:=aa h
 have SX:=gr k ([]:(List cE)) r1 SL
 refine ja (bv (N:=[(.const (.slice none 0 0),.eq (.slice none 0 0))]) (ax [.const (.slice none 0 0)] rfl rfl Dv rfl SX) fun _ _ _ hn=>⟨(aA (t:=(.slice bP)) (x:=([]:(List cE))) .nil rfl rfl hn.1),trivial⟩) ?_
 refine ja (bf (t:=(.int .i64)) [(.const (.int .i64 (0)),_)] [0] rfl rfl dn (.cons rfl .int .nil) rfl rfl) ?_
 obtain⟨r2,SK,h⟩:=aa h
 have SV:=jA k r1 [0] r2 SK
 refine jb (aK [.tmp 15,.tmp 16] rfl rfl JE rfl SV) ?_
 refine mq ?_
 refine xr ?_
 refine xr ?_
 refine aq ?_
 refine aq ?_
 refine nt ?_
 refine sr ?_
 obtain⟨r3,SJ,h⟩:=aa h
 have SU:=gr k ([]:(List cE)) r3 SJ
 refine ja (bv (N:=[(.const (.slice none 0 0),.eq (.slice none 0 0))]) (ax [.const (.slice none 0 0)] rfl rfl Dv rfl SU) fun _ _ _ hn=>⟨(aA (t:=(.slice bP)) (x:=([]:(List cE))) .nil rfl rfl hn.1),trivial⟩) ?_
 obtain⟨r4,SI,h⟩:=aa h
 have SS:=uS k r3 r4 SI
 refine ja (aK [.tmp 21] rfl rfl Re rfl SS) ?_
 refine mq ?_
 refine xr ?_
 refine xr ?_
 refine aq ?_
 refine aq ?_
 refine nt ?_
 refine sr ?_
 obtain⟨r5,SH,h⟩:=aa h
 have SR:=gr k ([]:(List cE)) r5 SH
 refine ja (bv (N:=[(.const (.slice none 0 0),.eq (.slice none 0 0))]) (ax [.const (.slice none 0 0)] rfl rfl Dv rfl SR) fun _ _ _ hn=>⟨(aA (t:=(.slice bP)) (x:=([]:(List cE))) .nil rfl rfl hn.1),trivial⟩) ?_
 obtain⟨r6,SG,h⟩:=aa h
 have SQ:=wJ k r5 2 r6 SG
 refine jb (aK [.tmp 26,.const (.int .i64 (2))] rfl rfl Q6 rfl SQ) ?_
 refine mq ?_
 refine xr ?_
 refine xr ?_
 refine aZ rfl rfl rfl (bu rfl vZ PG) trivial fun b7=>?_
 refine aU rfl rfl (aR rfl qj rfl rfl rfl) ⟨rfl,rfl,trivial⟩ ?_
 refine aq ?_
 refine nt ?_
 refine sr ?_
 obtain⟨r8,zz,h⟩:=aa h
 have SO:=gr k ([]:(List cE)) r8 zz
 refine ja (bv (N:=[(.const (.slice none 0 0),.eq (.slice none 0 0))]) (ax [.const (.slice none 0 0)] rfl rfl Dv rfl SO) fun _ _ _ hn=>⟨(aA (t:=(.slice bP)) (x:=([]:(List cE))) .nil rfl rfl hn.1),trivial⟩) ?_
 refine ja (bf (t:=(.int .i64)) [(.const (.int .i64 (0)),_)] [0] rfl rfl dn (.cons rfl .int .nil) rfl rfl) ?_
 obtain⟨r9,qt,h⟩:=aa h
 have SN:=wL k r8 [0] 3 r9 qt
 refine jc (aK [.tmp 31,.tmp 32,.const (.int .i64 (3))] rfl rfl Rf rfl SN) ?_
 refine mq ?_
 refine xr ?_
 refine xr ?_
 refine aq ?_
 refine aq ?_
 refine nt ?_
 refine sr ?_
 obtain⟨u,O,h⟩:=aa h
 have Y:=gr k ([]:(List cE)) u O
 refine ja (bv (N:=[(.const (.slice none 0 0),.eq (.slice none 0 0))]) (ax [.const (.slice none 0 0)] rfl rfl Dv rfl Y) fun _ _ _ hn=>⟨(aA (t:=(.slice bP)) (x:=([]:(List cE))) .nil rfl rfl hn.1),trivial⟩) ?_
 obtain⟨mw,M,h⟩:=aa h
 have X:=yt k u 2 mw M
 refine jb (aK [.tmp 37,.const (.int .i64 (2))] rfl rfl Rb rfl X) ?_
 refine mq ?_
 refine xr ?_
 refine xr ?_
 refine xr ?_
 refine aq ?_
 refine aq ?_
 refine aq ?_
 refine nt ?_
 refine sr ?_
 obtain⟨n,J,h⟩:=aa h
 have U:=gr k ([]:(List cE)) n J
 refine ja (bv (N:=[(.const (.slice none 0 0),.eq (.slice none 0 0))]) (ax [.const (.slice none 0 0)] rfl rfl Dv rfl U) fun _ _ _ hn=>⟨(aA (t:=(.slice bP)) (x:=([]:(List cE))) .nil rfl rfl hn.1),trivial⟩) ?_
 obtain⟨l,I,h⟩:=aa h
 have Q:=uR k n 2 l I
 refine jb (aK [.tmp 43,.const (.int .i64 (2))] rfl rfl Q5 rfl Q) ?_
 refine mq ?_
 refine xr ?_
 refine xr ?_
 refine aq ?_
 refine aq ?_
 refine nt ?_
 refine aJ (Z:=Unit) (α:=Bool) (fun e c=>[(0,.eq (.bool c))]) (fun e c=>[]) h (fun K h=>?_) (fun e c h=>?_)
 ·
  refine ag (mq ?_);refine jb (jd rfl) ?_;refine mq ?_;refine cF (s:=49) rfl (fun hb=>?_) (fun hb=>?_)
  ·replace h:=eO (uU hb) h;refine gm ?_;refine gb (jd rfl) ?_;refine pt ?_;refine mq ?_;refine cF (s:=53) rfl (fun hb=>?_) (fun hb=>?_)
   ·replace h:=eO (uU hb) h;refine gm ?_;refine gb (jd rfl) ?_;refine pt ?_;refine mq ?_;refine cF (s:=57) rfl (fun hb=>?_) (fun hb=>?_)
    ·replace h:=eO (uU hb) h;refine gm ?_;refine gb (jd rfl) ?_;refine pt ?_;refine mq ?_;refine cF (s:=61) rfl (fun hb=>?_) (fun hb=>?_)
     ·replace h:=eO (uU hb) h;refine gm ?_;refine gb (jd rfl) ?_;refine pt ?_;refine mq ?_;refine cF (s:=65) rfl (fun hb=>?_) (fun hb=>?_)
      ·replace h:=eO (uU hb) h;refine gm ?_;refine gb (jd rfl) ?_;refine pt ?_;refine mq ?_;refine cF (s:=69) rfl (fun hb=>?_) (fun hb=>?_)
       ·replace h:=eO (uU hb) h;refine lR rfl rfl rfl rfl rfl rfl (aD rfl qj (qD) rfl) ⟨rfl,trivial⟩ ?_;refine gb (dC [(0,.const (.int .i64 (1)),_),(1,.const (.int .i64 (3)),_)] rfl zW vZ ug (i8 ⟨rfl,rfl,trivial⟩) rfl) ?_;refine dX (d4 (t:=bq) (x:=(1,3)) 71 rfl (.agg (.pair .int .int)) trivial rfl) ?_;refine gb (L9 rfl QN rfl) ?_;refine pt ?_;refine mq ?_;refine cF (s:=74) rfl (fun hb=>?_) (fun hb=>?_)
        ·replace h:=eO (uU hb) h;refine gm ?_;refine gb (jd rfl) ?_;refine pt ?_;refine mq ?_;refine cF (s:=78) rfl (fun hb=>?_) (fun hb=>?_)
         ·replace h:=eO (uU hb) h;refine gm ?_;refine gb (jd rfl) ?_;refine pt ?_;refine mq ?_;refine cF (s:=82) rfl (fun hb=>?_) (fun hb=>?_)
          ·replace h:=eO (uU hb) h;refine gm ?_;refine lS rfl rfl rfl rfl rfl rfl (bf (t:=(.int .i64)) [(.const (.int .i64 (1)),_),(.const (.int .i64 (-1)),_),(.const (.int .i64 (-1)),_),(.const (.int .i64 (-1)),_)] [1,(-1:Int),(-1:Int),(-1:Int)] rfl rfl dn (.cons rfl .int (.cons rfl .int (.cons rfl .int (.cons rfl .int .nil)))) rfl rfl) ⟨rfl,rfl,rfl,rfl,trivial⟩ ?_;refine lS rfl rfl rfl rfl rfl rfl (bf (t:=(.int .i64)) [(.const (.int .i64 (2)),_),(.const (.int .i64 (0)),_),(.const (.int .i64 (-1)),_),(.const (.int .i64 (-1)),_)] [2,0,(-1:Int),(-1:Int)] rfl rfl dn (.cons rfl .int (.cons rfl .int (.cons rfl .int (.cons rfl .int .nil)))) rfl rfl) ⟨rfl,rfl,rfl,rfl,trivial⟩ ?_;refine lS rfl rfl rfl rfl rfl rfl (bf (t:=(.int .i64)) [(.const (.int .i64 (3)),_),(.const (.int .i64 (1)),_),(.const (.int .i64 (-1)),_),(.const (.int .i64 (-1)),_)] [3,1,(-1:Int),(-1:Int)] rfl rfl dn (.cons rfl .int (.cons rfl .int (.cons rfl .int (.cons rfl .int .nil)))) rfl rfl) ⟨rfl,rfl,rfl,rfl,trivial⟩ ?_;refine lS rfl rfl rfl rfl rfl rfl (bf (t:=(.int .i64)) [(.const (.int .i64 (3)),_),(.const (.int .i64 (2)),_),(.const (.int .i64 (0)),_),(.const (.int .i64 (-1)),_)] [3,2,0,(-1:Int)] rfl rfl dn (.cons rfl .int (.cons rfl .int (.cons rfl .int (.cons rfl .int .nil)))) rfl rfl) ⟨rfl,rfl,rfl,rfl,trivial⟩ ?_;refine lS rfl rfl rfl rfl rfl rfl (bf (t:=(.int .i64)) [(.const (.int .i64 (-1)),_),(.const (.int .i64 (3)),_),(.const (.int .i64 (1)),_),(.const (.int .i64 (0)),_)] [(-1:Int),3,1,0] rfl rfl dn (.cons rfl .int (.cons rfl .int (.cons rfl .int (.cons rfl .int .nil)))) rfl rfl) ⟨rfl,rfl,rfl,rfl,trivial⟩ ?_;refine lS rfl rfl rfl rfl rfl rfl (bf (t:=(.slice (.int .i64))) [(.tmp 84,_),(.tmp 85,_),(.tmp 86,_),(.tmp 87,_),(.tmp 88,_)] [[1,(-1:Int),(-1:Int),(-1:Int)],[2,0,(-1:Int),(-1:Int)],[3,1,(-1:Int),(-1:Int)],[3,2,0,(-1:Int)],[(-1:Int),3,1,0]] rfl rfl oQ (.cons rfl .rep (.cons rfl .rep (.cons rfl .rep (.cons rfl .rep (.cons rfl .rep .nil))))) rfl rfl) ⟨rfl,rfl,rfl,rfl,rfl,trivial⟩ ?_;obtain⟨mc,F,h⟩:=aa h;refine gb (ax [.tmp 83,.tmp 89] rfl rfl Pg rfl (me k r2.1 [[1,(-1:Int),(-1:Int),(-1:Int)],[2,0,(-1:Int),(-1:Int)],[3,1,(-1:Int),(-1:Int)],[3,2,0,(-1:Int)],[(-1:Int),3,1,0]] mc F)) ?_;refine pt ?_;refine mq ?_;refine cF (s:=92) rfl (fun hb=>?_) (fun hb=>?_)
           ·replace h:=eO (KO hb) h;refine gm ?_;refine ga (bf (t:=(.int .i64)) [(.const (.int .i64 (0)),_)] [0] rfl rfl dn (.cons rfl .int .nil) rfl rfl) ?_;refine gb (bf (t:=(.int .i64)) [(.const (.int .i64 (0)),_),(.const (.int .i64 (1)),_)] [0,1] rfl rfl dn (.cons rfl .int (.cons rfl .int .nil)) rfl rfl) ?_;refine ga (bf (t:=(.int .i64)) [(.const (.int .i64 (1)),_)] [1] rfl rfl dn (.cons rfl .int .nil) rfl rfl) ?_;refine gc (bf (t:=(.slice (.int .i64))) [(.tmp 94,_),(.tmp 95,_),(.tmp 96,_)] [[0],[0,1],[1]] rfl rfl oQ (.cons rfl .rep (.cons rfl .rep (.cons rfl .rep .nil))) rfl rfl) ?_;obtain⟨gw,E,h⟩:=aa h;refine gb (ax [.tmp 93,.tmp 97] rfl rfl Pg rfl (me k r4.1 [[0],[0,1],[1]] gw E)) ?_;refine pt ?_;refine mq ?_;refine cF (s:=100) rfl (fun hb=>?_) (fun hb=>?_)
            ·replace h:=eO (KO hb) h;refine gm ?_;refine gc (bf (t:=(.int .i64)) [(.const (.int .i64 (0)),_),(.const (.int .i64 (1)),_),(.const (.int .i64 (3)),_)] [0,1,3] rfl rfl dn (.cons rfl .int (.cons rfl .int (.cons rfl .int .nil))) rfl rfl) ?_;obtain⟨gq,D,h⟩:=aa h;refine gb (ax [.tmp 101,.tmp 102] rfl rfl M6 rfl (j7 k r9.1 [0,1,3] gq D)) ?_;refine pt ?_;refine mq ?_;refine cF (s:=105) rfl (fun hb=>?_) (fun hb=>?_)
             ·replace h:=eO (KO hb) h;refine gm ?_;refine gb (bf (t:=(.int .i64)) [(.const (.int .i64 (1)),_),(.const (.int .i64 (2)),_)] [1,2] rfl rfl dn (.cons rfl .int (.cons rfl .int .nil)) rfl rfl) ?_;obtain⟨j,y,h⟩:=aa h;refine gb (ax [.tmp 106,.tmp 107] rfl rfl M6 rfl (j7 k l.1 [1,2] j y)) ?_;refine pt ?_;refine aq (nl ?_);exact jz ((),j) h []
             ·replace h:=cV (KQ hb) h;iterate 3 refine gn ?_
              refine pf ?_;refine aq (nl ?_);exact jz ((),false) h []
            ·replace h:=cV (KQ hb) h;iterate 3 refine gn ?_
             refine pf ?_;refine mq ?_;iterate 3 refine gn ?_
             refine pf ?_;refine aq (nl ?_);exact jz ((),false) h []
           ·replace h:=cV (KQ hb) h;iterate 6 refine gn ?_
            refine pf ?_;refine mq ?_;iterate 3 refine gn ?_
            refine pf ?_;refine mq ?_;iterate 3 refine gn ?_
            refine pf ?_;refine aq (nl ?_);exact jz ((),false) h []
          ·replace h:=cV (uV hb) h;iterate 8 refine gn ?_
           refine pf ?_;refine mq ?_;iterate 6 refine gn ?_
           refine pf ?_;refine mq ?_;iterate 3 refine gn ?_
           refine pf ?_;refine mq ?_;iterate 3 refine gn ?_
           refine pf ?_;refine aq (nl ?_);exact jz ((),false) h []
         ·replace h:=cV (uV hb) h;iterate 2 refine gn ?_
          refine pf ?_;refine mq ?_;iterate 8 refine gn ?_
          refine pf ?_;refine mq ?_;iterate 6 refine gn ?_
          refine pf ?_;refine mq ?_;iterate 3 refine gn ?_
          refine pf ?_;refine mq ?_;iterate 3 refine gn ?_
          refine pf ?_;refine aq (nl ?_);exact jz ((),false) h []
        ·replace h:=cV (uV hb) h;iterate 2 refine gn ?_
         refine pf ?_;refine mq ?_;iterate 2 refine gn ?_
         refine pf ?_;refine mq ?_;iterate 8 refine gn ?_
         refine pf ?_;refine mq ?_;iterate 6 refine gn ?_
         refine pf ?_;refine mq ?_;iterate 3 refine gn ?_
         refine pf ?_;refine mq ?_;iterate 3 refine gn ?_
         refine pf ?_;refine aq (nl ?_);exact jz ((),false) h []
       ·replace h:=cV (uV hb) h;iterate 3 refine gn ?_
        refine pf ?_;refine mq ?_;iterate 2 refine gn ?_
        refine pf ?_;refine mq ?_;iterate 2 refine gn ?_
        refine pf ?_;refine mq ?_;iterate 8 refine gn ?_
        refine pf ?_;refine mq ?_;iterate 6 refine gn ?_
        refine pf ?_;refine mq ?_;iterate 3 refine gn ?_
        refine pf ?_;refine mq ?_;iterate 3 refine gn ?_
        refine pf ?_;refine aq (nl ?_);exact jz ((),false) h []
      ·replace h:=cV (uV hb) h;iterate 2 refine gn ?_
       refine pf ?_;refine mq ?_;iterate 3 refine gn ?_
       refine pf ?_;refine mq ?_;iterate 2 refine gn ?_
       refine pf ?_;refine mq ?_;iterate 2 refine gn ?_
       refine pf ?_;refine mq ?_;iterate 8 refine gn ?_
       refine pf ?_;refine mq ?_;iterate 6 refine gn ?_
       refine pf ?_;refine mq ?_;iterate 3 refine gn ?_
       refine pf ?_;refine mq ?_;iterate 3 refine gn ?_
       refine pf ?_;refine aq (nl ?_);exact jz ((),false) h []
     ·replace h:=cV (uV hb) h;iterate 2 refine gn ?_
      refine pf ?_;refine mq ?_;iterate 2 refine gn ?_
      refine pf ?_;refine mq ?_;iterate 3 refine gn ?_
      refine pf ?_;refine mq ?_;iterate 2 refine gn ?_
      refine pf ?_;refine mq ?_;iterate 2 refine gn ?_
      refine pf ?_;refine mq ?_;iterate 8 refine gn ?_
      refine pf ?_;refine mq ?_;iterate 6 refine gn ?_
      refine pf ?_;refine mq ?_;iterate 3 refine gn ?_
      refine pf ?_;refine mq ?_;iterate 3 refine gn ?_
      refine pf ?_;refine aq (nl ?_);exact jz ((),false) h []
    ·replace h:=cV (uV hb) h;iterate 2 refine gn ?_
     refine pf ?_;refine mq ?_;iterate 2 refine gn ?_
     refine pf ?_;refine mq ?_;iterate 2 refine gn ?_
     refine pf ?_;refine mq ?_;iterate 3 refine gn ?_
     refine pf ?_;refine mq ?_;iterate 2 refine gn ?_
     refine pf ?_;refine mq ?_;iterate 2 refine gn ?_
     refine pf ?_;refine mq ?_;iterate 8 refine gn ?_
     refine pf ?_;refine mq ?_;iterate 6 refine gn ?_
     refine pf ?_;refine mq ?_;iterate 3 refine gn ?_
     refine pf ?_;refine mq ?_;iterate 3 refine gn ?_
     refine pf ?_;refine aq (nl ?_);exact jz ((),false) h []
   ·replace h:=cV (uV hb) h;iterate 2 refine gn ?_
    refine pf ?_;refine mq ?_;iterate 2 refine gn ?_
    refine pf ?_;refine mq ?_;iterate 2 refine gn ?_
    refine pf ?_;refine mq ?_;iterate 2 refine gn ?_
    refine pf ?_;refine mq ?_;iterate 3 refine gn ?_
    refine pf ?_;refine mq ?_;iterate 2 refine gn ?_
    refine pf ?_;refine mq ?_;iterate 2 refine gn ?_
    refine pf ?_;refine mq ?_;iterate 8 refine gn ?_
    refine pf ?_;refine mq ?_;iterate 6 refine gn ?_
    refine pf ?_;refine mq ?_;iterate 3 refine gn ?_
    refine pf ?_;refine mq ?_;iterate 3 refine gn ?_
    refine pf ?_;refine aq (nl ?_);exact jz ((),false) h []
  ·replace h:=cV (uV hb) h;iterate 2 refine gn ?_
   refine pf ?_;refine mq ?_;iterate 2 refine gn ?_
   refine pf ?_;refine mq ?_;iterate 2 refine gn ?_
   refine pf ?_;refine mq ?_;iterate 2 refine gn ?_
   refine pf ?_;refine mq ?_;iterate 2 refine gn ?_
   refine pf ?_;refine mq ?_;iterate 3 refine gn ?_
   refine pf ?_;refine mq ?_;iterate 2 refine gn ?_
   refine pf ?_;refine mq ?_;iterate 2 refine gn ?_
   refine pf ?_;refine mq ?_;iterate 8 refine gn ?_
   refine pf ?_;refine mq ?_;iterate 6 refine gn ?_
   refine pf ?_;refine mq ?_;iterate 3 refine gn ?_
   refine pf ?_;refine mq ?_;iterate 3 refine gn ?_
   refine pf ?_;refine aq (nl ?_);exact jz ((),false) h []
 ·
  refine aC ?_;cases h;exact ra
def cP(k:Nat)(r3:ai×bR)(r5:(List Int)×bR)(r6:(List Int)×bR):Nat→((List Int)×Int)→Option (List Int)
 |0,_=>none
 |n+1,y9=>
  if y9.2 < r3.1.1 then((((((rQ k r5.1 y9.2).bind fun l=>
  if 0≤l then(some true) else((rQ k r6.1 y9.2).bind fun j=>
  some (decide (0≤j)))):Option (Bool)).bind fun e=>
  if e=true then((cJ (cu (List.length y9.1+List.length [y9.2]))).bind fun _=>
  some (y9.1++[y9.2])) else(some y9.1)):Option ((List Int))).bind fun h=>
  (ck (y9.2+1)).bind fun c=>
  cP k r3 r5 r6 n (h,c)) else(some y9.1)
def cC(k:Nat)(r3:ai×bR)(l:(List (List Int))×Int)(j:(List (List Int))×Int)(h:(List (List Int))×Int)(e:Int):Nat→Int→Option (Except Bool Unit)
 |0,_=>none
 |n+1,c=>
  if c < r3.1.1 then((aX h.1 e).bind fun E=>
  (aX E c).bind fun D=>
  (aX l.1 e).bind fun y=>
  (aX y c).bind fun x=>
  (aX j.1 e).bind fun u=>
  (aX u c).bind fun s=>
  if¬(D=(j8 x s)) then(some (.error false)) else((ck (c+1)).bind fun r=>
  cC k r3 l j h e n r)) else(some (.ok ()))
def cD(k:Nat)(r3:ai×bR)(l:(List (List Int))×Int)(j:(List (List Int))×Int)(h:(List (List Int))×Int):Nat→Int→Option (Except Bool Unit)
 |0,_=>none
 |n+1,c=>
  if c < (h.1.length:Int) then(bE (α:=Unit) (cC k r3 l j h c k 0) (fun e=>some (.error e)) fun _=>
  (ck (c+1)).bind fun r=>
  cD k r3 l j h n r) else(some (.ok ()))
def gu(k:Nat)(a0:(List Int)):Option Bool:=
 (lG k a0).bind fun r1=>
 (iu k (r1.1,r1.2.1,r1.2.2) 5 6).bind fun r3=>
 (iv k (r3.2.1,r3.2.2.1,r3.2.2.2) r3.1.1).bind fun r5=>
 (iv k (r5.2.1,r5.2.2.1,r5.2.2.2) r3.1.1).bind fun r6=>
 ((cP k r3 r5 r6 k (([]:(List Int)),0)):Option ((List Int))).bind fun x7=>
 (fB k (r3.1.1,r3.1.2.1,r3.1.2.2.1,r3.1.2.2.2.1,r3.1.2.2.2.2.1,[]) r5.1).bind fun h=>
 (fB k (r3.1.1,r3.1.2.1,r3.1.2.2.1,r3.1.2.2.2.1,r3.1.2.2.2.2.1,[]) r6.1).bind fun e=>
 (fB k (r3.1.1,r3.1.2.1,r3.1.2.2.1,r3.1.2.2.2.1,r3.1.2.2.2.2.1,[]) x7).bind fun c=>
 ((if¬(h.2=0) then(some true) else(if¬(e.2=0) then(some true) else(if¬(c.2=0) then(some true) else((jl k (r3.1.1,r3.1.2.1,r3.1.2.2.1,r3.1.2.2.2.1,r3.1.2.2.2.2.1,[]) h.1).bind fun s=>
 if¬(s=true) then(some true) else((jl k (r3.1.1,r3.1.2.1,r3.1.2.2.1,r3.1.2.2.2.1,r3.1.2.2.2.2.1,[]) e.1).bind fun r=>
 if¬(r=true) then(some true) else((jl k (r3.1.1,r3.1.2.1,r3.1.2.2.1,r3.1.2.2.2.1,r3.1.2.2.2.2.1,[]) c.1).bind fun n=>
 some (!n))))))):Option (Bool)).bind fun j=>
 if j=true then(some false) else(bE (α:=Unit) (cD k r3 h e c k 0) (some) fun _=>
 (qI k).bind fun l=>
 some l)
theorem oR(k:Nat)(a0:(List Int))(r:Bool)(h:gu k a0=some r):
 bX (dE Tryz.prog) 3 [Ri a0] [] (fun _:Unit=>(bI [.eq (.bool r)],[])):=by
 unfold gu at h
 replace h:=bo h
 refine bX.of 131 Tryz.func3 rfl Tryz.ntmps3 rfl fun S w0=>?_
 refine sr ?_
 refine cq ?_
 refine nt ?_
 refine sr ?_
 refine mq ?_
 obtain⟨r1,Tv,h⟩:=aa h
 have TC:=tX k a0 r1 Tv
 refine aZ rfl rfl rfl (ax [.tmp 17] rfl rfl Sj rfl TC) ⟨rfl,trivial⟩ fun b2=>?_
 refine aq ?_
 refine nt ?_
 refine sr ?_
 refine mq ?_
 obtain⟨r3,Tu,h⟩:=aa h
 have TB:=tY k (r1.1,r1.2.1,r1.2.2) b2 5 6 r3 Tu
 refine kc (ax [.tmp 19,.const (.int .i64 (5)),.const (.int .i64 (6))] rfl rfl Si rfl TB) ?_
 refine aZ rfl rfl rfl (bu rfl CS J1) trivial fun b4=>?_
 refine aU rfl rfl (aR rfl iZ trivial rfl rfl) ⟨rfl,rfl,trivial⟩ ?_
 refine nt ?_
 refine am ?_
 refine cS ?_
 refine dm ?_
 refine da (aN rfl eX) ?_
 refine ea 0 (aD rfl bT pX rfl) ?_
 obtain⟨r5,Tt,h⟩:=aa h
 have TA:=nR k (r3.2.1,r3.2.2.1,r3.2.2.2) b2 r3.1.1 r5 Tt
 refine CO 1 rfl rfl rfl rfl (ax [.tmp 21,.tmp 23] rfl rfl RJ rfl TA) ⟨rfl,rfl,trivial⟩ ?_
 refine dm ?_
 refine da (aN rfl eX) ?_
 refine ea 0 (aD rfl bT pX rfl) ?_
 refine CP (Δ':=[.obj b4 28 (.agg (.pair (I r3.1.1) (.pair (I r3.1.2.1) (.pair (I r3.1.2.2.1) (.pair (I r3.1.2.2.2.1) (.pair (.rep (.slice (.slice (.slice (.int .i64)))) r3.1.2.2.2.2.1) (.eq (.slice none 0 0)))))))),.obj b2 56 (.agg (.pair (Ri r5.2.1) (.pair (I r5.2.2.1) (.eq (.int .u64 r5.2.2.2)))))]) (by kernel_rfl) eF (by kernel_rfl) ?_
 obtain⟨r6,To,h⟩:=aa h
 have Tz:=nR k (r5.2.1,r5.2.2.1,r5.2.2.2) b2 r3.1.1 r6 To
 refine fr 1 ?_
 refine kb (ax [.tmp 25,.tmp 27] rfl rfl RJ rfl Tz) ?_
 refine aq ?_
 refine aq ?_
 refine nt ?_
 refine sr ?_
 refine cq ?_
 refine nt ?_
 refine aJ (Z:=Value) (α:=(List Int)) (fun z8 x7=>[(4,Pt b4),(5,Ri r5.1),(6,Ri r6.1),(7,.eq z8)]) (fun z8 x7=>[.obj b4 28 (.agg (.pair (I r3.1.1) (.pair (I r3.1.2.1) (.pair (I r3.1.2.2.1) (.pair (I r3.1.2.2.2.1) (.pair (.rep (.slice (.slice (.slice (.int .i64)))) r3.1.2.2.2.2.1) (.eq (.slice none 0 0)))))))),.sl z8 3 (.int .i64) x7]) h (fun K h=>?_) (fun z8 x7 h=>?_)
 ·
  refine sr (cq (nt (ak ?_)));refine gX (SE.nil 3 (.int .i64)) ?_;refine aH (fun u y9=>[(4,Pt b4),(5,Ri r5.1),(6,Ri r6.1),(7,.eq u),(8,I y9.2)]) (fun u y9=>[.obj b4 28 (.agg (.pair (I r3.1.1) (.pair (I r3.1.2.1) (.pair (I r3.1.2.2.1) (.pair (I r3.1.2.2.2.1) (.pair (.rep (.slice (.slice (.slice (.int .i64)))) r3.1.2.2.2.2.1) (.eq (.slice none 0 0)))))))),.sl u 3 (.int .i64) y9.1]) (cP k r3 r5 r6) k (.slice none 0 0) (([]:(List Int)),0) (fun _=>rfl) h (SE.fin [2,0] ⟨rfl,rfl,rfl,rfl,rfl,trivial⟩ rfl) (fun n u y9 h=>?_);unfold cP at h;refine am (sr (mq ?_));refine fl eX ?_;refine lo bT ?_;refine jb (bG rfl) ?_;refine nt (ci h (fun h=>?_) (fun h=>?_))
  ·refine sk (aJ (Z:=Value) (α:=(List Int)) (fun D E=>[(4,Pt b4),(5,Ri r5.1),(6,Ri r6.1),(7,.eq D),(8,I y9.2)]) (fun D E=>[.obj b4 28 (.agg (.pair (I r3.1.1) (.pair (I r3.1.2.1) (.pair (I r3.1.2.2.1) (.pair (I r3.1.2.2.2.1) (.pair (.rep (.slice (.slice (.slice (.int .i64)))) r3.1.2.2.2.2.1) (.eq (.slice none 0 0)))))))),.sl D 3 (.int .i64) E]) h (fun K h=>?_) (fun D E h=>?_))
   ·refine ak (aJ (Z:=Unit) (α:=Bool) (fun gq M=>[(4,Pt b4),(5,Ri r5.1),(6,Ri r6.1),(7,.eq u),(8,I y9.2),(44,.eq (.bool M))]) (fun gq M=>[.obj b4 28 (.agg (.pair (I r3.1.1) (.pair (I r3.1.2.1) (.pair (I r3.1.2.2.1) (.pair (I r3.1.2.2.2.1) (.pair (.rep (.slice (.slice (.slice (.int .i64)))) r3.1.2.2.2.2.1) (.eq (.slice none 0 0)))))))),.sl u 3 (.int .i64) y9.1]) h (fun K h=>?_) (fun gq M h=>?_))
    ·refine ag ?_;iterate 2 refine mq ?_
     obtain⟨Tn,S7,h⟩:=aa h;refine jb (ax [.tmp 35,.tmp 36] rfl rfl Px rfl (vA k r5.1 y9.2 Tn S7)) ?_;refine jb (i9 rfl) ?_;refine mq ?_;refine cF (s:=39) rfl (fun hb=>?_) (fun hb=>?_)
     ·replace h:=eO (uU hb) h;iterate 4 refine gn ?_
      refine pt (nl ?_);exact jz ((),true) h [0,1]
     ·replace h:=cV (uV hb) h;refine gm ?_;refine gm ?_;obtain⟨qt,S5,h⟩:=aa h;refine gb (ax [.tmp 40,.tmp 41] rfl rfl Px rfl (vA k r6.1 y9.2 qt S5)) ?_;refine gb (i9 rfl) ?_;refine pf (nl ?_);exact jz ((),decide (0≤qt)) h [0,1]
    ·refine cv h (fun h=>?_) (fun h=>?_)
     ·refine ag ?_;iterate 2 refine mq ?_
      refine ja (bf (t:=(.int .i64)) [(.tmp 46,_)] [y9.2] rfl rfl dn (.cons rfl .int .nil) rfl rfl) ?_;obtain⟨TM,SQ,h⟩:=aa h;refine fr 1 ?_;refine dN rfl rfl rfl (cx rfl rfl dn (ao SQ)) ⟨rfl,rfl,trivial⟩ fun Tf=>?_;refine aq (aE (bn ?_));exact jz (Tf,y9.1++[y9.2]) h [1,0]
     ·refine bh (bn ?_);exact jz (u,y9.1) h [0,1]
   ·refine ag (mq ?_);obtain⟨Td,SO,h⟩:=aa h;refine jb (bB rfl SO) ?_;refine aq (nl ?_);exact jz (D,(E,Td)) h [0,1]
  ·refine xa ?_;exact jz (u,y9.1) h [0,1]
 ·
  refine sr (lo iZ ?_);refine mq ?_;obtain⟨l,SZ,h⟩:=aa h;refine jb (bv (N:=[(.tmp 50,.agg (.pair (I r3.1.1) (.pair (I r3.1.2.1) (.pair (I r3.1.2.2.1) (.pair (I r3.1.2.2.2.1) (.pair (.rep (.slice (.slice (.slice (.int .i64)))) r3.1.2.2.2.2.1) (.eq (.slice none 0 0)))))))),(.tmp 51,Ri r5.1)]) (aK [.tmp 50,.tmp 51] rfl rfl JE rfl (jA k (r3.1.1,r3.1.2.1,r3.1.2.2.1,r3.1.2.2.2.1,r3.1.2.2.2.2.1,[]) r5.1 l SZ)) fun _ _ _ hn=>⟨(aA (t:=ab) (x:=(r3.1.1,r3.1.2.1,r3.1.2.2.1,r3.1.2.2.2.1,r3.1.2.2.2.2.1,[])) (.agg (.pair .int (.pair .int (.pair .int (.pair .int (.pair .rep .nil)))))) trivial rfl hn.1),hn.2.1,trivial⟩) ?_;refine mq ?_;refine xr ?_;refine xr ?_;refine aq ?_;refine aq (nt (sr ?_));refine lo iZ ?_;refine mq ?_;obtain⟨j,SY,h⟩:=aa h;refine jb (bv (N:=[(.tmp 56,.agg (.pair (I r3.1.1) (.pair (I r3.1.2.1) (.pair (I r3.1.2.2.1) (.pair (I r3.1.2.2.2.1) (.pair (.rep (.slice (.slice (.slice (.int .i64)))) r3.1.2.2.2.2.1) (.eq (.slice none 0 0)))))))),(.tmp 57,Ri r6.1)]) (aK [.tmp 56,.tmp 57] rfl rfl JE rfl (jA k (r3.1.1,r3.1.2.1,r3.1.2.2.1,r3.1.2.2.2.1,r3.1.2.2.2.2.1,[]) r6.1 j SY)) fun _ _ _ hn=>⟨(aA (t:=ab) (x:=(r3.1.1,r3.1.2.1,r3.1.2.2.1,r3.1.2.2.2.1,r3.1.2.2.2.2.1,[])) (.agg (.pair .int (.pair .int (.pair .int (.pair .int (.pair .rep .nil)))))) trivial rfl hn.1),hn.2.1,trivial⟩) ?_;refine mq ?_;refine xr ?_;refine xr ?_;refine aq ?_;refine aq (nt (sr ?_));refine lo iZ ?_;refine mq ?_;refine fr 1 ?_;refine dX (iV [7,63] ⟨rfl,rfl,trivial⟩) ?_;obtain⟨c,SX,h⟩:=aa h;refine jb (bv (N:=[(.tmp 62,.agg (.pair (I r3.1.1) (.pair (I r3.1.2.1) (.pair (I r3.1.2.2.1) (.pair (I r3.1.2.2.2.1) (.pair (.rep (.slice (.slice (.slice (.int .i64)))) r3.1.2.2.2.2.1) (.eq (.slice none 0 0)))))))),(.tmp 63,Ri x7)]) (aK [.tmp 62,.tmp 63] rfl rfl JE rfl (jA k (r3.1.1,r3.1.2.1,r3.1.2.2.1,r3.1.2.2.2.1,r3.1.2.2.2.2.1,[]) x7 c SX)) fun _ _ _ hn=>⟨(aA (t:=ab) (x:=(r3.1.1,r3.1.2.1,r3.1.2.2.1,r3.1.2.2.2.1,r3.1.2.2.2.2.1,[])) (.agg (.pair .int (.pair .int (.pair .int (.pair .int (.pair .rep .nil)))))) trivial rfl hn.1),hn.2.1,trivial⟩) ?_;refine mq ?_;refine xr ?_;refine xr ?_;refine aq ?_;refine aq (nt (am ?_));refine aJ (Z:=Unit) (α:=Bool) (fun Y J=>[(4,Pt b4),(9,.rep (.slice (.slice (.int .i64))) l.1),(11,.rep (.slice (.slice (.int .i64))) j.1),(13,.rep (.slice (.slice (.int .i64))) c.1),(94,.eq (.bool J))]) (fun Y J=>[.obj b4 28 (.agg (.pair (I r3.1.1) (.pair (I r3.1.2.1) (.pair (I r3.1.2.2.1) (.pair (I r3.1.2.2.2.1) (.pair (.rep (.slice (.slice (.slice (.int .i64)))) r3.1.2.2.2.2.1) (.eq (.slice none 0 0))))))))]) h (fun K h=>?_) (fun Y J h=>?_)
  ·refine ag (mq ?_);refine jb (eR rfl) ?_;refine mq ?_;refine cF (s:=69) rfl (fun hb=>?_) (fun hb=>?_)
   ·replace h:=eO (P3 hb) h;iterate 2 refine gn ?_
    refine pt ?_;refine mq ?_;iterate 2 refine gn ?_
    refine pt ?_;refine mq ?_;iterate 4 refine gn ?_
    refine pt ?_;refine mq ?_;iterate 4 refine gn ?_
    refine pt ?_;refine mq ?_;iterate 4 refine gn ?_
    refine pt (nl ?_);exact jz ((),true) h [0]
   ·replace h:=cV (I0 hb) h;refine gm ?_;refine gb (eR rfl) ?_;refine pf ?_;refine mq ?_;refine cF (s:=73) rfl (fun hb=>?_) (fun hb=>?_)
    ·replace h:=eO (P3 hb) h;iterate 2 refine gn ?_
     refine pt ?_;refine mq ?_;iterate 4 refine gn ?_
     refine pt ?_;refine mq ?_;iterate 4 refine gn ?_
     refine pt ?_;refine mq ?_;iterate 4 refine gn ?_
     refine pt (nl ?_);exact jz ((),true) h [0]
    ·replace h:=cV (I0 hb) h;refine gm ?_;refine gb (eR rfl) ?_;refine pf ?_;refine mq ?_;refine cF (s:=77) rfl (fun hb=>?_) (fun hb=>?_)
     ·replace h:=eO (P3 hb) h;iterate 4 refine gn ?_
      refine pt ?_;refine mq ?_;iterate 4 refine gn ?_
      refine pt ?_;refine mq ?_;iterate 4 refine gn ?_
      refine pt (nl ?_);exact jz ((),true) h [0]
     ·replace h:=cV (I0 hb) h;refine lR rfl rfl rfl rfl rfl rfl (aD rfl iZ (qD) rfl) ⟨rfl,trivial⟩ ?_;refine gm ?_;obtain⟨Tm,SV,h⟩:=aa h;refine gb (bv (N:=[(.tmp 78,.agg (.pair (I r3.1.1) (.pair (I r3.1.2.1) (.pair (I r3.1.2.2.1) (.pair (I r3.1.2.2.2.1) (.pair (.rep (.slice (.slice (.slice (.int .i64)))) r3.1.2.2.2.2.1) (.eq (.slice none 0 0)))))))),(.tmp 79,.rep (.slice (.slice (.int .i64))) l.1)]) (ax [.tmp 78,.tmp 79] rfl rfl Na rfl (mP k (r3.1.1,r3.1.2.1,r3.1.2.2.1,r3.1.2.2.2.1,r3.1.2.2.2.2.1,[]) l.1 Tm SV)) fun _ _ _ hn=>⟨(aA (t:=ab) (x:=(r3.1.1,r3.1.2.1,r3.1.2.2.1,r3.1.2.2.2.1,r3.1.2.2.2.2.1,[])) (.agg (.pair .int (.pair .int (.pair .int (.pair .int (.pair .rep .nil)))))) trivial rfl hn.1),hn.2.1,trivial⟩) ?_;refine ga (gJ rfl) ?_;refine pf ?_;refine mq ?_;refine cF (s:=83) rfl (fun hb=>?_) (fun hb=>?_)
      ·replace h:=eO (wF hb) h;iterate 4 refine gn ?_
       refine pt ?_;refine mq ?_;iterate 4 refine gn ?_
       refine pt (nl ?_);exact jz ((),true) h [0]
      ·replace h:=cV (qz hb) h;refine lR rfl rfl rfl rfl rfl rfl (aD rfl iZ (qD) rfl) ⟨rfl,trivial⟩ ?_;refine gm ?_;obtain⟨Tj,SU,h⟩:=aa h;refine gb (bv (N:=[(.tmp 84,.agg (.pair (I r3.1.1) (.pair (I r3.1.2.1) (.pair (I r3.1.2.2.1) (.pair (I r3.1.2.2.2.1) (.pair (.rep (.slice (.slice (.slice (.int .i64)))) r3.1.2.2.2.2.1) (.eq (.slice none 0 0)))))))),(.tmp 85,.rep (.slice (.slice (.int .i64))) j.1)]) (ax [.tmp 84,.tmp 85] rfl rfl Na rfl (mP k (r3.1.1,r3.1.2.1,r3.1.2.2.1,r3.1.2.2.2.1,r3.1.2.2.2.2.1,[]) j.1 Tj SU)) fun _ _ _ hn=>⟨(aA (t:=ab) (x:=(r3.1.1,r3.1.2.1,r3.1.2.2.1,r3.1.2.2.2.1,r3.1.2.2.2.2.1,[])) (.agg (.pair .int (.pair .int (.pair .int (.pair .int (.pair .rep .nil)))))) trivial rfl hn.1),hn.2.1,trivial⟩) ?_;refine ga (gJ rfl) ?_;refine pf ?_;refine mq ?_;refine cF (s:=89) rfl (fun hb=>?_) (fun hb=>?_)
       ·replace h:=eO (wF hb) h;iterate 4 refine gn ?_
        refine pt (nl ?_);exact jz ((),true) h [0]
       ·replace h:=cV (qz hb) h;refine lR rfl rfl rfl rfl rfl rfl (aD rfl iZ (qD) rfl) ⟨rfl,trivial⟩ ?_;refine gm ?_;obtain⟨mw,SS,h⟩:=aa h;refine gb (bv (N:=[(.tmp 90,.agg (.pair (I r3.1.1) (.pair (I r3.1.2.1) (.pair (I r3.1.2.2.1) (.pair (I r3.1.2.2.2.1) (.pair (.rep (.slice (.slice (.slice (.int .i64)))) r3.1.2.2.2.2.1) (.eq (.slice none 0 0)))))))),(.tmp 91,.rep (.slice (.slice (.int .i64))) c.1)]) (ax [.tmp 90,.tmp 91] rfl rfl Na rfl (mP k (r3.1.1,r3.1.2.1,r3.1.2.2.1,r3.1.2.2.2.1,r3.1.2.2.2.2.1,[]) c.1 mw SS)) fun _ _ _ hn=>⟨(aA (t:=ab) (x:=(r3.1.1,r3.1.2.1,r3.1.2.2.1,r3.1.2.2.2.1,r3.1.2.2.2.2.1,[])) (.agg (.pair .int (.pair .int (.pair .int (.pair .int (.pair .rep .nil)))))) trivial rfl hn.1),hn.2.1,trivial⟩) ?_;refine ga (gJ rfl) ?_;refine pf (nl ?_);exact jz ((), !mw) h [0]
  ·refine cv h (fun h=>?_) (fun h=>?_)
   ·refine sr (cq (nt (rx ?_)));cases h;exact ra
   ·refine sk (dx (Z:=Unit) (α:=Unit) (fun X mc=>[]) (fun X mc=>[]) (fun e=>e=r) h (fun e h=>Option.some.inj h) (fun K hR h=>?_) (fun X mc h=>?_))
    ·refine sr (cq (nt (ak ?_)));refine aH (fun U y=>[(4,Pt b4),(9,.rep (.slice (.slice (.int .i64))) l.1),(11,.rep (.slice (.slice (.int .i64))) j.1),(13,.rep (.slice (.slice (.int .i64))) c.1),(15,I y)]) (fun U y=>[.obj b4 28 (.agg (.pair (I r3.1.1) (.pair (I r3.1.2.1) (.pair (I r3.1.2.2.1) (.pair (I r3.1.2.2.2.1) (.pair (.rep (.slice (.slice (.slice (.int .i64)))) r3.1.2.2.2.2.1) (.eq (.slice none 0 0))))))))]) (cD k r3 l j c) k () 0 (fun _=>rfl) h (SE.fin [0] ⟨rfl,rfl,rfl,rfl,rfl,trivial⟩ rfl) (fun n U y h=>?_);unfold cD at h;refine am (sr ?_);iterate 2 refine mq ?_
     refine ol sE ?_;refine jb (bG rfl) ?_;refine nt (ci h (fun h=>?_) (fun h=>?_))
     ·refine sk (dx (Z:=Unit) (α:=Unit) (fun Q gw=>[(4,Pt b4),(9,.rep (.slice (.slice (.int .i64))) l.1),(11,.rep (.slice (.slice (.int .i64))) j.1),(13,.rep (.slice (.slice (.int .i64))) c.1),(15,I y)]) (fun Q gw=>[.obj b4 28 (.agg (.pair (I r3.1.1) (.pair (I r3.1.2.1) (.pair (I r3.1.2.2.1) (.pair (I r3.1.2.2.2.1) (.pair (.rep (.slice (.slice (.slice (.int .i64)))) r3.1.2.2.2.2.1) (.eq (.slice none 0 0))))))))]) (fun e=>e=r) h (fun e h=>hR e h) (fun K hR h=>?_) (fun Q gw h=>?_))
      ·refine ak (sr (cq (nt (ak ?_))));refine aH (fun O F=>[(4,Pt b4),(9,.rep (.slice (.slice (.int .i64))) l.1),(11,.rep (.slice (.slice (.int .i64))) j.1),(13,.rep (.slice (.slice (.int .i64))) c.1),(15,I y),(16,I F)]) (fun O F=>[.obj b4 28 (.agg (.pair (I r3.1.1) (.pair (I r3.1.2.1) (.pair (I r3.1.2.2.1) (.pair (I r3.1.2.2.2.1) (.pair (.rep (.slice (.slice (.slice (.int .i64)))) r3.1.2.2.2.2.1) (.eq (.slice none 0 0))))))))]) (cC k r3 l j c y) k () 0 (fun _=>rfl) h (SE.fin [0] ⟨rfl,rfl,rfl,rfl,rfl,rfl,trivial⟩ rfl) (fun n O F h=>?_);unfold cC at h;refine am (sr (mq ?_));refine fl eX ?_;refine lo bT ?_;refine jb (bG rfl) ?_;refine nt (ci h (fun h=>?_) (fun h=>?_))
       ·refine sk (am (ak (am (cS ?_))));refine dm ?_;refine dm ?_;obtain⟨TL,SN,h⟩:=aa h;refine db (be (t:=(.slice (.int .i64))) rfl sE iD SN) ?_;refine da (av (t:=(.slice (.int .i64))) rfl iD rfl) ?_;refine dm ?_;obtain⟨TK,SL,h⟩:=aa h;refine db (be (t:=(.int .i64)) rfl iC bT SL) ?_;refine da (av (t:=(.int .i64)) rfl bT rfl) ?_;refine dm ?_;refine dm ?_;obtain⟨TJ,SK,h⟩:=aa h;refine db (be (t:=(.slice (.int .i64))) rfl sE iD SK) ?_;refine da (av (t:=(.slice (.int .i64))) rfl iD rfl) ?_;refine dm ?_;obtain⟨TG,SJ,h⟩:=aa h;refine db (be (t:=(.int .i64)) rfl iC bT SJ) ?_;refine da (av (t:=(.int .i64)) rfl bT rfl) ?_;refine dm ?_;refine dm ?_;obtain⟨TF,SI,h⟩:=aa h;refine db (be (t:=(.slice (.int .i64))) rfl sE iD SI) ?_;refine da (av (t:=(.slice (.int .i64))) rfl iD rfl) ?_;refine dm ?_;obtain⟨TD,SH,h⟩:=aa h;refine db (be (t:=(.int .i64)) rfl iC bT SH) ?_;refine da (av (t:=(.int .i64)) rfl bT rfl) ?_;refine db (yj rfl rfl) ?_;refine df eF ?_;refine jb (eR rfl) ?_;refine nt (cn h (fun h=>?_) (fun h=>?_))
        ·refine sr (cq (nt (aC (br (bH (br (bH (bF ?_))))))));obtain rfl:=hR _ h;exact ra
        ·refine bh (aS (tn (ag (mq ?_))));obtain⟨Ta,SG,h⟩:=aa h;refine jb (bB rfl SG) ?_;refine aq (nl ?_);exact jz ((),Ta) h [0]
       ·refine fU (bO (bO (de (bn ?_))));exact jz ((),()) h [0]
      ·refine ag (mq ?_);obtain⟨S9,zz,h⟩:=aa h;refine jb (bB rfl zz) ?_;refine aq (nl ?_);exact jz ((),S9) h [0]
     ·refine xa ?_;exact jz ((),()) h []
    ·refine sr ?_;obtain⟨Ti,SR,h⟩:=aa h;refine bU rfl (aK [] rfl rfl Rh rfl (yD k Ti SR)) trivial ?_;refine aq (nt (aC ?_));cases h;exact ra
end Go.Proofs.YtkncjjdpjaapaaaGreat
