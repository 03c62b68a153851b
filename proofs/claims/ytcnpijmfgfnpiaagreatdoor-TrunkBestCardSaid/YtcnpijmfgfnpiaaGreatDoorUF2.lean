import Derived.Test.YtcnpijmfgfnpiaaGreatDoorUB10
import Derived.Test.YtcnpijmfgfnpiaaGreatDoorUB8
import Derived.Test.YtcnpijmfgfnpiaaGreatDoorUB9
import Derived.Test.YtcnpijmfgfnpiaaGreatDoorUB5
set_option linter.unusedSimpArgs false
set_option linter.unusedVariables false
set_option maxRecDepth 4000
set_option maxHeartbeats 1000000
namespace Go.Proofs.YtcnpijmfgfnpiaaGreatDoor
open K Go Go.Proofs
def cg(k:Nat)(a0:bR)(a1:(List (List Int))):Option Int:=
 (kx k a0).bind fun r2=>
 if¬(r2=0) then(some r2) else((kw k a0 a1).bind fun r4=>
 (P4 r4).bind fun q5=>
 if q5.isSome=true then(some (q5.getD 0)) else(some 0))
theorem dT(k:Nat)(a0:bR)(a1:(List (List Int)))(r:Int)(h:cg k a0 a1=some r):
 cd Tryz.prog 35 [.rep aI a0,.rep (.slice (.slice (.int .i64))) a1] [.inv 0 (eF)] (fun _:Unit=>(bv [I r],[.inv 0 (eF)])):=by
 unfold cg at h
 replace h:=ba h
 refine cd.of 19 Tryz.func35 rfl Tryz.ntmps35 rfl fun S w0=>?_
 refine sr ?_
 refine bx fun b1=>?_
 refine cq ?_
 refine nt ?_
 refine ah ?_
 refine sr ?_
 refine lo jk ?_
 obtain⟨r2,e,h⟩:=ab h
 have l:=qC k a0 r2 e
 refine ja (ar [.tmp 7] rfl rfl OQ rfl l) ?_
 refine aq ?_
 refine nt ?_
 refine sr ?_
 refine mq ?_
 refine jb (iH rfl) ?_
 refine nt ?_
 refine cn h (fun h=>?_) (fun h=>?_)
 ·
  refine sr (mq ?_);refine aq (nt (rx ?_));refine bS (SE.fin (Γ':=[(4,_)]) [1,0] ⟨rfl,trivial⟩ rfl) ?_;cases h;exact aJ () [_] 1 ⟨rfl,trivial⟩ rfl
 ·
  refine sk (sr (aD rfl rfl rfl (bF rfl tA PM) trivial fun b3=>?_));refine nt (ah (sr (fr 1 ?_)));refine lo jk ?_;refine mq ?_;obtain⟨r4,c,h⟩:=ab h;refine jb (ar [.tmp 12,.tmp 13] rfl rfl QF rfl (qx k a0 a1 r4 c)) ?_;refine ja (Fo rfl Q2) ?_;obtain⟨q5,j,h⟩:=ab h;refine fr 2 ?_;refine fr 2 ?_;refine bH (Δ:=[_,_]) (F:=_) (fun _ _ _=>au rfl _) rfl rfl (ar [.tmp 14,.tmp 15] rfl rfl QG rfl (PD j)) ⟨rfl,rfl,trivial⟩ fun _=>?_;refine nt (cv h (fun h=>?_) (fun h=>?_))
  ·refine sr (fl I9 ?_);refine lo Qf ?_;refine aq (nt (rx ?_));refine bS (SE.fin (Γ':=[(4,_)]) [1,0,2] ⟨rfl,trivial⟩ rfl) ?_;cases h;exact aJ () [_] 1 ⟨rfl,trivial⟩ rfl
  ·refine sk (sr (cq (nt (aB ?_))));refine bS (SE.fin (Γ':=[(4,_)]) [1,0,2] ⟨rfl,trivial⟩ rfl) ?_;cases h;exact aJ () [_] 1 ⟨rfl,trivial⟩ rfl
def mS(k:Nat)(a0:bR)(r7:Int×(List (List Int))):Nat→((List Int)×Int)→Option (List Int)
 |0,_=>none
 |n+1,c=>
  if c.2 < (a0.2.1.length:Int) then((((dF k r7.1 c.2).bind fun j=>
  if j=true then((d3 (bV (List.length c.1+List.length [c.2]))).bind fun _=>
  some (c.1++[c.2])) else(some c.1)):Option ((List Int))).bind fun h=>
  (ck (c.2+1)).bind fun e=>
  mS k a0 r7 n (h,e)) else(some c.1)
def wx(k:Nat)(a0:bR)(a1:(List (List Int)))(a2:Int):Option ((List Int)×(List (List Int))×Int):=
 (cg k a0 a1).bind fun r2=>
 if¬(r2=0) then(some ([],[],r2)) else((ck (a0.1 - 1)).bind fun x3=>
 (dP k a2 0 x3).bind fun r4=>
 if¬(r4=true) then(some ([],[],3)) else((dG k a1).bind fun r6=>
 (kh k (a0,()) r6 a2).bind fun r7=>
 ((mS k a0 r7 k (([]:(List Int)),0)):Option ((List Int))).bind fun x9=>
 (eI k (a0,()) r7.2).bind fun c=>
 some (x9,c,0)))
theorem zW(k:Nat)(a0:bR)(a1:(List (List Int)))(a2:Int)(r:(List Int)×(List (List Int))×Int)(h:wx k a0 a1 a2=some r):
 cd Tryz.prog 31 [.rep aI a0,.rep (.slice (.slice (.int .i64))) a1,I a2] [.inv 0 (eF)] (fun _:Unit=>(bv [Ri r.1,.rep (.slice (.slice (.int .i64))) r.2.1,I r.2.2],[.inv 0 (eF)])):=by
 unfold wx at h
 replace h:=ba h
 refine cd.of 55 Tryz.func31 rfl Tryz.ntmps31 rfl fun S w0=>?_
 refine sr ?_
 refine bx fun b1=>?_
 refine cq ?_
 refine cq ?_
 refine cq ?_
 refine nt ?_
 refine ah ?_
 refine sr ?_
 refine lo jk ?_
 refine mq ?_
 obtain⟨r2,ac,h⟩:=ab h
 have mc:=dT k a0 a1 r2 ac
 refine fr 1 ?_
 refine kb (ar [.tmp 15,.tmp 16] rfl rfl Jh rfl mc) ?_
 refine aq ?_
 refine nt ?_
 refine sr ?_
 refine mq ?_
 refine jb (iH rfl) ?_
 refine nt ?_
 refine cn h (fun h=>?_) (fun h=>?_)
 ·
  refine sr (mq ?_);refine cq ?_;refine cq ?_;refine aq (nt (rx ?_));refine bS (l8 (t:=(.slice (.int .i64))) (x:=[]) 6 rfl .nil rfl rfl) ?_;refine bS (l8 (t:=(.slice (.slice (.int .i64)))) (x:=[]) 7 rfl .nil rfl rfl) ?_;cases h;exact aJ () [_,_,_] 1 ⟨rfl,rfl,rfl,trivial⟩ rfl
 ·
  refine sk (ah (sr (mq ?_)));refine fl qf ?_;refine fr 1 ?_;refine lo dw ?_;obtain⟨x3,Q,h⟩:=ab h;refine jb (gC rfl Q) ?_;obtain⟨r4,Y,h⟩:=ab h;refine jc (ar [.tmp 21,.const (.int .i64 (0)),.tmp 24] rfl rfl zb rfl (d5 k a2 0 x3 r4 Y)) ?_;refine ja (fW rfl) ?_;refine nt (cw h (fun h=>?_) (fun h=>?_))
  ·refine sr (cq ?_);refine cq ?_;refine cq (nt (rx ?_));refine bS (l8 (t:=(.slice (.int .i64))) (x:=[]) 6 rfl .nil rfl rfl) ?_;refine bS (l8 (t:=(.slice (.slice (.int .i64)))) (x:=[]) 7 rfl .nil rfl rfl) ?_;refine bS (SE.fin (Γ':=[(6,_),(7,_),(8,_)]) [1,0] ⟨rfl,rfl,rfl,trivial⟩ rfl) ?_;cases h;exact aJ () [_,_,_] 1 ⟨rfl,rfl,rfl,trivial⟩ rfl
  ·refine sk (sr (lo jk ?_));refine aD rfl rfl rfl (ar [.tmp 27] rfl rfl GY rfl (fD a0)) ⟨rfl,trivial⟩ fun z5=>?_;refine co (jD (bi k a0) kC) ?_;refine aq (nt (sr ?_));iterate 2 refine mq ?_
   obtain⟨r6,X,h⟩:=ab h;refine ja (ar [.tmp 31] rfl rfl DU rfl (eJ k a1 r6 X)) ?_;refine mq ?_;obtain⟨r7,U,h⟩:=ab h;refine jc (dt (N:=[(.tmp 30,.at ap (a0,(.map (some z5)))),(.tmp 32,.rep (.arr 3 (.arr 5 (.int .i64))) r6),(.tmp 33,I a2)]) (ar [.tmp 30,.tmp 32,.tmp 33] rfl rfl ON rfl (ni k (a0,()) r6 a2 r7 U)) fun _ _ _ hn=>⟨(qk hn.1),hn.2.1,hn.2.2.1,trivial⟩) ?_;refine mq ?_;refine xr ?_;refine xr ?_;refine aD rfl rfl rfl (bF rfl lx lS) trivial fun b8=>?_;refine aq ?_;refine a8 rfl rfl (aW rfl cN rfl rfl rfl) ⟨rfl,rfl,trivial⟩ ?_;refine nt (sr (cq (nt ?_)));refine aK (Z:=Value) (α:=(List Int)) (fun l x9=>[(10,.at ap (a0,(.map (some z5)))),(12,Pt b8),(13,.eq l)]) (fun l x9=>[.obj b8 107 (.rep (.arr 3 (.arr 5 (.int .i64))) r7.2),.sl l 3 (.int .i64) x9,.inv 0 (eF),.inv z5 (bi k a0)]) h (fun K h=>?_) (fun l x9 h=>?_)
   ·refine sr (fl i7 ?_);refine fr 2 ?_;refine lo qE ?_;refine ol zM ?_;refine eB rfl ?_;refine nt (aj (fP (SE.nil 3 (.int .i64)) ?_));refine aH (fun e c=>[(10,.at ap (a0,(.map (some z5)))),(11,.eq (.int .u8 r7.1)),(12,Pt b8),(13,.eq e),(39,I (a0.2.1.length:Int)),(40,I c.2)]) (fun e c=>[.obj b8 107 (.rep (.arr 3 (.arr 5 (.int .i64))) r7.2),.sl e 3 (.int .i64) c.1,.inv 0 (eF),.inv z5 (bi k a0)]) (mS k a0 r7) k (.slice none 0 0) (([]:(List Int)),0) (fun _=>rfl) h (SE.fin [2,0,4,3] ⟨rfl,rfl,rfl,rfl,rfl,rfl,trivial⟩ rfl) (fun n e c h=>?_);unfold mS at h;refine sr (jb (bz rfl) ?_);refine nt (ah (ci h (fun h=>?_) (fun h=>?_)))
    ·refine sk (aK (Z:=Value) (α:=(List Int)) (fun j s=>[(10,.at ap (a0,(.map (some z5)))),(11,.eq (.int .u8 r7.1)),(12,Pt b8),(13,.eq j),(39,I (a0.2.1.length:Int)),(40,I c.2)]) (fun j s=>[.obj b8 107 (.rep (.arr 3 (.arr 5 (.int .i64))) r7.2),.sl j 3 (.int .i64) s,.inv 0 (eF),.inv z5 (bi k a0)]) h (fun K h=>?_) (fun j s h=>?_))
     ·refine aj (sr (mq ?_));refine aq (nt (sr ?_));iterate 2 refine mq ?_
      obtain⟨O,E,h⟩:=ab h;refine jb (ar [.tmp 43,.tmp 44] rfl rfl Je rfl (gU k r7.1 c.2 O E)) ?_;refine nt (cv h (fun h=>?_) (fun h=>?_))
      ·refine aa ?_;iterate 2 refine mq ?_
       refine ja (bu (t:=(.int .i64)) [(.tmp 47,_)] [c.2] rfl rfl fp (.cons rfl .int .nil) rfl rfl) ?_;obtain⟨u16,y,h⟩:=ab h;refine fr 1 ?_;refine dS rfl rfl rfl (ct rfl rfl fp (aC y)) ⟨rfl,rfl,trivial⟩ fun J=>?_;refine aq (ak (bn ?_));exact jz (J,c.1++[c.2]) h [1,0,2,3]
      ·refine aO (bn ?_);exact jz (e,c.1) h [0,1,2,3]
     ·refine aa ?_;obtain⟨F,u,h⟩:=ab h;refine jb (bh rfl u) ?_;refine mq (nl ?_);exact jz (j,(s,F)) h [0,1,2,3]
    ·refine xa ?_;exact jz (e,c.1) h [0,1,2,3]
   ·refine sr ?_;iterate 2 refine mq ?_
    refine lo cN ?_;obtain⟨M,D,h⟩:=ab h;refine aD rfl rfl rfl (dt (N:=[(.tmp 52,.at ap (a0,(.map (some z5)))),(.tmp 53,.rep (.arr 3 (.arr 5 (.int .i64))) r7.2)]) (ar [.tmp 52,.tmp 53] rfl rfl LZ rfl (iP k (a0,()) r7.2 M D)) fun _ _ _ hn=>⟨(qk hn.1),hn.2.1,trivial⟩) ⟨rfl,rfl,trivial⟩ fun pp=>?_;refine aq ?_;refine aq ?_;refine cq (nt (aB ?_));refine bO 2 rfl ?_;refine bS (fM [6,13,51] ⟨rfl,rfl,rfl,trivial⟩) ?_;refine bS (fM [7,54] ⟨rfl,rfl,trivial⟩) ?_;refine bS (SE.fin (Γ':=[(6,_),(7,_),(8,_)]) [1,0,2] ⟨rfl,rfl,rfl,trivial⟩ rfl) ?_;cases h;exact aJ () [_,_,_] 1 ⟨rfl,rfl,rfl,trivial⟩ rfl
theorem gy(k:Nat)(a0:bR)(z_a0:Nat)(a1:(List (List Int)))(r:Int)(h:bm k a0 a1=some r):
 c6 (hQ Tryz.prog) 111 [.at ap (a0,(.map (some z_a0))),.rep (.arr 3 (.arr 5 (.int .i64))) a1] [.inv z_a0 (bi k a0)] (fun _:Unit=>(bv [I r],[.inv z_a0 (bi k a0)])):=by
 have h0:=h
 unfold bm at h
 replace h:=ba h
 obtain⟨u1,eg,h⟩:=ab h
 have hg:=aC eg
 have gk:=Gn hg
 refine c6.of 28 Tryz.func111 rfl Tryz.ntmps111 rfl fun S w0=>?_
 refine sr ?_
 refine bx fun b1=>?_
 refine cq ?_
 refine nt ?_
 refine ah ?_
 refine dV 1 rfl ?_
 refine A7 fun ob hob=>?_
 obtain⟨lnn,lbb,hlR,hlk⟩:=wS (z:=z_a0) PQ KR yR gk Dx hob
 refine bZ ?_
 refine dm ?_
 refine da (dq rfl) ?_
 refine da (aM 1 false rfl BO rfl) ?_
 refine da (ao (t:=.val) rfl J6 rfl) ?_
 refine ea 1 (an rfl cN (zK) rfl) ?_
 refine eb 0 (Dl (kv:=kd a1) (vD _) (ll.calm hob) rfl (fun _ _ _ hh=>ud hh) hlk) ?_
 refine dm ?_
 refine da (gq rfl rfl) ?_
 refine da (gq rfl rfl) ?_
 refine da (jP rfl) ?_
 refine df eU ?_
 refine aq ?_
 refine nt ?_
 refine ah ?_
 refine sr ?_
 refine mq ?_
 refine ja (fW rfl) ?_
 refine nt ?_
 refine fP (jD (bi k a0) hob) ?_
 refine bB rfl (fun hb=>?_) (fun hb=>?_)
 ·
  refine sr (mq ?_);refine fr 1 ?_;refine lo cN ?_;obtain⟨r2,c,h⟩:=ab h;refine jc (dt (N:=[(.tmp 18,.at ap (a0,(.map (some z_a0)))),(.tmp 19,.rep (.arr 3 (.arr 5 (.int .i64))) a1),(.const (.int .i64 (0)),I 0)]) (dN [.tmp 18,.tmp 19,.const (.int .i64 (0))] rfl rfl KI rfl (lC k (a0,()) a1 0 r2 c)) fun _ _ _ hn=>⟨(qk hn.1),hn.2.1,hn.2.2.1,trivial⟩) ?_;refine aq (nt ?_);refine bZ ?_;refine dm ?_;refine da (dq rfl) ?_;refine da (aM 1 false rfl BO rfl) ?_;refine da (ao (t:=.val) rfl J6 rfl) ?_;refine ea 0 (an rfl cN (zK) rfl) ?_;refine dm ?_;refine df eU ?_;refine fr 1 ?_;have hl:bm k a0 a1=some r2:=h0.trans (show some r=some r2 from h.symm);refine a8 rfl rfl (yo (kv:=kd a1) (vD _) rfl PQ yR (fun _ _ _ hh=>ud hh) gk ⟨a1,hg,rfl,hl⟩) ⟨rfl,rfl,rfl,trivial⟩ ?_;refine nt (sr (mq ?_));refine aq (nt (aB ?_));cases h;exact aJ () [_] 1 ⟨rfl,trivial⟩ rfl
 ·
  obtain⟨p,hp,he,hl⟩:=hlR (by simpa using hb);obtain rfl:=vE hg hp he;replace h:some lnn=some r:=hl.symm.trans h0;refine sk (sr (mq ?_));refine aq (nt (aB ?_));cases h;exact aJ () [_] 1 ⟨rfl,trivial⟩ rfl
def jj(k:Nat)(a0:bR)(a1:(List (List Int))):Option (Int×Int):=
 (cg k a0 a1).bind fun r2=>
 if¬(r2=0) then(some (0,r2)) else((dG k a1).bind fun r4=>
 (bm k a0 r4).bind fun r5=>
 some (r5,0))
theorem mR(k:Nat)(a0:bR)(a1:(List (List Int)))(r:Int×Int)(h:jj k a0 a1=some r):
 c6 (hQ Tryz.prog) 48 [.rep aI a0,.rep (.slice (.slice (.int .i64))) a1] [.inv 0 (eF)] (fun _:Unit=>(bv [I r.1,I r.2],[.inv 0 (eF)])):=by
 unfold jj at h
 replace h:=ba h
 refine c6.of 18 Tryz.func48 rfl Tryz.ntmps48 rfl fun S w0=>?_
 refine sr ?_
 refine bx fun b1=>?_
 refine cq ?_
 refine cq ?_
 refine nt ?_
 refine ah ?_
 refine sr ?_
 refine lo jk ?_
 refine mq ?_
 obtain⟨r2,j,h⟩:=ab h
 have l:=dT k a0 a1 r2 j
 refine fr 1 ?_
 refine kb (ar [.tmp 7,.tmp 8] rfl rfl Jh rfl l) ?_
 refine aq ?_
 refine nt ?_
 refine sr ?_
 refine mq ?_
 refine jb (iH rfl) ?_
 refine nt ?_
 refine cn h (fun h=>?_) (fun h=>?_)
 ·
  refine sr (mq ?_);refine cq ?_;refine aq (nt (rx ?_));cases h;exact aJ () [_,_] 1 ⟨rfl,rfl,trivial⟩ rfl
 ·
  refine sk (sr (fr 1 ?_));refine lo jk ?_;refine aD rfl rfl rfl (ar [.tmp 13] rfl rfl GY rfl (fD a0)) ⟨rfl,trivial⟩ fun z3=>?_;refine co (jD (bi k a0) kC) ?_;refine mq ?_;obtain⟨r4,e,h⟩:=ab h;refine ja (ar [.tmp 15] rfl rfl DU rfl (eJ k a1 r4 e)) ?_;obtain⟨r5,c,h⟩:=ab h;refine kb (dN [.tmp 14,.tmp 16] rfl rfl G0 rfl (gy k a0 z3 r4 r5 c)) ?_;refine aq ?_;refine cq (nt (aB ?_));refine bS (SE.fin (Γ':=[(4,_),(5,_)]) [2,0,1] ⟨rfl,rfl,trivial⟩ rfl) ?_;cases h;exact aJ () [_,_] 1 ⟨rfl,rfl,trivial⟩ rfl
set_option maxRecDepth 20000
set_option maxHeartbeats 4000000
@[reducible] def eH:Ty:=.agg (.pair (.int .i64) (.int .i64))
def OE(x:Int×Int):Value:=.agg #[.int .i64 x.1,.int .i64 x.2]
theorem Jc{S:FS}{w:World}{x:Int×Int}:(A.rep eH x).holds S w (OE x):=⟨[_,_],⟨[_],[_],rfl,rfl,rfl⟩,rfl⟩
theorem GT{S:FS}{w:World}{x:Int×Int}{v:Value}(h:(A.rep eH x).holds S w v):(A.eq (OE x)).holds S w v:=by
 obtain⟨cs,⟨c1,c2,rfl,h1,h2⟩,rfl⟩:=h;have h1:c1=_:=h1;have h2:c2=_:=h2;subst h1 h2;rfl
theorem f5:dx Tryz.prog 131 2 true:=⟨fun w=>by kernel_rfl,fun w=>by kernel_rfl⟩
theorem nj:dx Tryz.prog 28 1 false:=⟨fun w=>by kernel_rfl,fun w=>by kernel_rfl⟩
theorem Bf:dx Tryz.prog 23 1 false:=⟨fun w=>by kernel_rfl,fun w=>by kernel_rfl⟩
theorem s5:dx Tryz.prog 3 1 false:=⟨fun w=>by kernel_rfl,fun w=>by kernel_rfl⟩
theorem EM:dx Tryz.prog 102 1 false:=⟨fun w=>by kernel_rfl,fun w=>by kernel_rfl⟩
theorem LI:aP Tryz.prog 131 0 0:=aP.of (by kernel_rfl)
theorem LH:aP Tryz.prog 131 1 1:=aP.of (by kernel_rfl)
theorem OD:aP Tryz.prog 128 0 0:=aP.of (by kernel_rfl)
theorem tc:aP Tryz.prog 128 1 1:=aP.of (by kernel_rfl)
theorem xk:ag Tryz.prog 136:=ag.of Tryz.func136 (by kernel_rfl) (by kernel_rfl)
def iE(x:Int×Int)(m:Int):Nat→Int×List Int→Option (List Int)
 |0,_=>none
 |n+1,q=>if q.1 < m then((a9 q.2 q.1).bind fun c=>if c=x.1 then(ck (q.1+1)).bind fun w=>iE x m n (w,q.2.set q.1.toNat x.2) else if c=x.2 then(ck (q.1+1)).bind fun w=>iE x m n (w,q.2.set q.1.toNat x.1) else(ck (q.1+1)).bind fun w=>iE x m n (w,q.2)) else some q.2
def jM(k:Nat)(x:Int×Int)(m:Int):Nat→Int×List (List Int)→Option (List (List Int))
 |0,_=>none
 |n+1,q=>if q.1 < m then((a9 q.2 q.1).bind fun l=>(iE x (l.length:Int) k (0,l)).bind fun l2=>(ck (q.1+1)).bind fun w=>jM k x m n (w,q.2.set q.1.toNat l2)) else some q.2
def mj(k:Nat)(x:Int×Int)(ls:List (List Int)):Option (List (List Int)):=jM k x (ls.length:Int) k (0,ls)
theorem lB(k:Nat)(x:Int×Int)(ls r:List (List Int))(y:Nat)(d0:ap.den)(z:Value×(Nat→Value))(h:mj k x ls=some r):
 cd Tryz.prog 136 [.eq (bP y),.rep eH x] ([.obj y 128 (.agg (.pair (.at ap d0) (.eq z.1)))]++eM 23 z ls) (fun _:Unit=>(bv [],[.obj y 128 (.agg (.pair (.at ap d0) (.eq z.1)))]++eM 23 z r)):=by
 unfold mj at h
 replace h:=ba h
 refine cd.of 45 Tryz.func136 rfl Tryz.ntmps136 rfl fun S w0=>?_
 refine sr ?_
 refine bx fun b3=>?_
 refine nt ?_
 refine sr ?_
 refine mq ?_
 refine ja (aR rfl) ?_
 refine fl tc ?_
 refine fr 1 ?_
 refine lo nj ?_
 refine co (Cb (pre:=[.obj y 128 (.agg (.pair (.at ap d0) (.eq z.1))),.obj b3 131 (.rep eH x)])) ?_
 refine ka (fH rfl rfl lj) ?_
 rw [fZ]
 refine co (D7 (pre:=[.obj y 128 (.agg (.pair (.at ap d0) (.eq z.1))),.obj b3 131 (.rep eH x)])) ?_
 refine eB rfl ?_
 refine nt ?_
 refine aj ?_
 refine aH (Z:=Unit) (α:=Int×List (List Int)) (fun _ q=>[(3,.eq (bP b3)),(11,.eq z.1),(12,I (ls.length:Int)),(13,I q.1)]) (fun _ q=>[.obj y 128 (.agg (.pair (.at ap d0) (.eq z.1))),.obj b3 131 (.rep eH x)]++eM 23 z q.2) (jM k x (ls.length:Int)) k () (0,ls) (fun _=>rfl) h (aV [.obj y 128 (.agg (.pair (.at ap d0) (.eq z.1))),.obj b3 131 (.rep eH x)] (eM 23 z ls) [0,1] ⟨rfl,rfl,rfl,rfl,trivial⟩ rfl) (fun n u q h=>?_)
 unfold jM at h
 refine sr ?_
 refine jb (bz rfl) ?_
 refine nt ?_
 refine ah ?_
 refine bB rfl (fun hb=>?_) (fun hb=>?_)
 ·
  replace h:=cm (l5 hb) h;refine sk (ah (aj ?_));obtain⟨l,el,h⟩:=ab h;refine fP (we (pre:=[.obj y 128 (.agg (.pair (.at ap d0) (.eq z.1))),.obj b3 131 (.rep eH x)]) (tp el).2) ?_;refine sr (fr 1 ?_);refine kb (cE (t:=.val) rfl lj Bf (oJ el)) ?_;refine ka (jo (i:=q.1.toNat) (off:=0) rfl Bf (fun _=>rfl) rfl (eG (oJ el)).2.2 rfl) ?_;refine aq (nt ?_);rw [Option.bind_assoc] at h;refine sr (mq ?_);refine fr 1 ?_;refine ka (fH rfl rfl fY) ?_;refine eB rfl ?_;refine nt (aj (aH (Z:=Unit) (α:=Int×List Int) (fun _ q2=>[(3,.eq (bP b3)),(5,.eq (z.2 q.1.toNat)),(11,.eq z.1),(12,I (ls.length:Int)),(13,I q.1),(17,.eq (z.2 q.1.toNat)),(18,I (l.length:Int)),(19,I q2.1)]) (fun _ q2=>[.sl (z.2 q.1.toNat) 3 (.int .i64) (q2.2),.sl z.1 23 .val (eV z.2 0 q.2),.obj y 128 (.agg (.pair (.at ap d0) (.eq z.1))),.obj b3 131 (.rep eH x)]++((kz z.2 0 q.2).eraseIdx q.1.toNat)) (iE x (l.length:Int)) k () (0,l) (fun _=>rfl) h (aV [.sl (z.2 q.1.toNat) 3 (.int .i64) (l),.sl z.1 23 .val (eV z.2 0 q.2),.obj y 128 (.agg (.pair (.at ap d0) (.eq z.1))),.obj b3 131 (.rep eH x)] ((kz z.2 0 q.2).eraseIdx q.1.toNat) [0,1,2,3] ⟨rfl,rfl,rfl,rfl,rfl,rfl,rfl,rfl,trivial⟩ rfl) (fun n2 u2 q2 h=>?_)));unfold iE at h;refine sr (jb (bz rfl) ?_);refine nt (ah (bB rfl (fun hb=>?_) (fun hb=>?_)))
  ·replace h:=cm (l5 hb) h;refine sk (ah (aj ?_));obtain⟨c,ec,h⟩:=ab h;refine sr (mq ?_);refine kb (cE (t:=.int .i64) rfl fY s5 ec) ?_;refine ka (jo (i:=q2.1.toNat) (off:=0) rfl s5 (fun _=>rfl) rfl (eG ec).2.2 rfl) ?_;refine aq ?_;refine aq (nt (sr ?_));refine mq (nt (aj (sr ?_)));refine fl LI ?_;refine fr 3 ?_;refine lo s5 ?_;refine jb (de rfl) ?_;refine aq (nt ?_);refine ci h (fun h=>?_) (fun h=>?_)
   ·refine aa ?_;iterate 2 refine mq ?_
    refine fl LH ?_;refine lo s5 ?_;refine fr 1 ?_;refine kb (cE (t:=.int .i64) rfl fY s5 ec) ?_;refine a8 rfl rfl (fV (i:=q2.1.toNat) rfl s5 rfl (lO ec) rfl .int rfl) ⟨rfl,rfl,trivial⟩ ?_;refine ak (aG (aG (tn (aa ?_))));obtain⟨w,ew,h⟩:=ab h;refine jb (bh rfl ew) ?_;refine mq (nl ?_);exact gP ((),(w,q2.2.set q2.1.toNat x.2)) h (aV [.sl (z.2 q.1.toNat) 3 (.int .i64) (q2.2.set q2.1.toNat x.2),.obj b3 131 (.rep eH x),.sl z.1 23 .val (eV z.2 0 q.2),.obj y 128 (.agg (.pair (.at ap d0) (.eq z.1)))] ((kz z.2 0 q.2).eraseIdx q.1.toNat) [0,2,3,1] ⟨rfl,rfl,rfl,rfl,rfl,rfl,rfl,rfl,trivial⟩ rfl)
   ·refine sr (fl LH ?_);refine lo s5 ?_;refine jb (de rfl) ?_;refine aq (nt ?_);refine ci h (fun h=>?_) (fun h=>?_)
    ·refine aa ?_;iterate 2 refine mq ?_
     refine fl LI ?_;refine lo s5 ?_;refine fr 1 ?_;refine kb (cE (t:=.int .i64) rfl fY s5 ec) ?_;refine a8 rfl rfl (fV (i:=q2.1.toNat) rfl s5 rfl (lO ec) rfl .int rfl) ⟨rfl,rfl,trivial⟩ ?_;refine ak (aG (aG (tn (aa ?_))));obtain⟨w,ew,h⟩:=ab h;refine jb (bh rfl ew) ?_;refine mq (nl ?_);exact gP ((),(w,q2.2.set q2.1.toNat x.1)) h (aV [.sl (z.2 q.1.toNat) 3 (.int .i64) (q2.2.set q2.1.toNat x.1),.obj b3 131 (.rep eH x),.sl z.1 23 .val (eV z.2 0 q.2),.obj y 128 (.agg (.pair (.at ap d0) (.eq z.1)))] ((kz z.2 0 q.2).eraseIdx q.1.toNat) [0,2,3,1] ⟨rfl,rfl,rfl,rfl,rfl,rfl,rfl,rfl,trivial⟩ rfl)
    ·refine aO (aG (aG (tn (aa ?_))));obtain⟨w,ew,h⟩:=ab h;refine jb (bh rfl ew) ?_;refine mq (nl ?_);exact gP ((),(w,q2.2)) h (aV [.obj b3 131 (.rep eH x),.sl (z.2 q.1.toNat) 3 (.int .i64) (q2.2),.sl z.1 23 .val (eV z.2 0 q.2),.obj y 128 (.agg (.pair (.at ap d0) (.eq z.1)))] ((kz z.2 0 q.2).eraseIdx q.1.toNat) [1,2,3,0] ⟨rfl,rfl,rfl,rfl,rfl,rfl,rfl,rfl,trivial⟩ rfl)
  replace h:=bD (lu hb) h;refine dD (aN (aN (bU (aG (tn (fP (zz (pre:=[.obj y 128 (.agg (.pair (.at ap d0) (.eq z.1))),.obj b3 131 (.rep eH x)]) (l':=q2.2) (tp el).2) ?_))))));refine aa ?_;obtain⟨w,ew,h⟩:=ab (X:=ck (q.1+1)) (f:=fun w=>jM k x (ls.length:Int) n (w,q.2.set q.1.toNat q2.2)) (K:=some) (r:=r) (by simpa using h);refine jb (bh rfl ew) ?_;refine mq (nl ?_);exact gP ((),(w,q.2.set q.1.toNat q2.2)) h (aV [.obj y 128 (.agg (.pair (.at ap d0) (.eq z.1))),.obj b3 131 (.rep eH x)] (eM 23 z (q.2.set q.1.toNat q2.2)) [0,1] ⟨rfl,rfl,rfl,rfl,trivial⟩ rfl)
 replace h:=bD (lu hb) h
 refine dD ?_
 refine aN ?_
 refine aN ?_
 refine bU ?_
 cases h
 refine iq ?_
 refine bS (aV (Γ':=[]) (pre':=[.obj y 128 (.agg (.pair (.at ap d0) (.eq z.1)))]) [.obj y 128 (.agg (.pair (.at ap d0) (.eq z.1))),.obj b3 131 (.rep eH x)] (eM 23 z q.2) [0] trivial rfl) ?_
 exact ic () [] trivial rfl
@[reducible] def Ig:Ty:=.agg (.pair (.ptr ap) (.slice (.slice (.int .i64))))
theorem KY{S:FS}{w:World}{y:Nat}{d0:ap.den}{z:Value×(Nat→Value)}{ls:List (List Int)}(h:∀d∈[D.obj y 128 (.agg (.pair (.at ap d0) (.eq z.1)))]++eM 23 z ls,d.holds S w∧∀b,d.foot=some b→S b):(A.at Ig (d0,ls)).holds S w (bP y):=by
 obtain⟨⟨cs,h1,c1,c2,rfl,g1,rfl,g2⟩,h2⟩:=h _ (List.mem_cons_self ..);have h3:=Gf (fun d hd=>h d (List.mem_cons_of_mem _ hd));refine⟨y,0,_,128,(0,0),rfl,h2 y rfl,h1,c1,[z.1],?_,g1,?_⟩
 ·have l1:=aF (.ptr ap) g1;simp only [Ty.cells] at l1;match c1,l1 with
  |[u],_=>rfl
 ·obtain⟨cs,h4,h5⟩:=h3;have l1:=aF (.slice (.slice (.int .i64))) h4;simp only [Ty.cells] at l1;match cs,l1 with
  |[u],_=>rw [h5];exact h4
theorem xU{S:FS}{w:World}{a:Act}{Γ:Ga}{y:Nat}{d0:ap.den}{z:Value×(Nat→Value)}{ls:List (List Int)}(h:∀d∈[D.obj y 128 (.agg (.pair (.at ap d0) (.eq z.1)))]++eM 23 z ls,d.holds S w∧∀b,d.foot=some b→S b)
 (hk:∀s r,lk Γ s=some r→r.holds S w (a.tmps.getD s undef)) (h0:lk Γ 0=some (.eq (bP y))):∀s r,lk [(0,A.at Ig (d0,ls))] s=some r→r.holds S w (a.tmps.getD s undef):=fun s r hl=>by
 simp only [lk] at hl
 split at hl
 ·
  rename_i e
  cases hl
  subst e
  have e1:a.tmps.getD 0 undef=bP y:=hk 0 _ h0
  rw [e1]
  exact KY h
 ·
  cases hl
theorem Kz{n:Nat}{r0:A}(h:r0.flat=true):∀s r,lk [(n,r0)] s=some r→r.flat=true:=fun s r hl=>by
 simp only [lk] at hl
 split at hl
 ·
  cases hl;exact h
 ·
  cases hl
theorem LK{d0:D}(h:d0.flat=true):∀d∈[d0],d.flat=true:=fun d hd=>by
 simp only [List.mem_cons,List.not_mem_nil,or_false] at hd
 subst hd;exact h
theorem Jb{d0 d1:D}(h:d0.flat=true)(h1:d1.flat=true):∀d∈[d0,d1],d.flat=true:=fun d hd=>by
 simp only [List.mem_cons,List.not_mem_nil,or_false] at hd
 rcases hd with rfl |rfl <;> assumption
theorem xW{y:Nat}{x:Int×Int}(S:FS)(w:World):fA S w [.eq (bP y),.rep eH x] [bP y,OE x]:=⟨_,_,rfl,rfl,_,_,rfl,Jc,rfl⟩
theorem LG:aP Tryz.prog 173 0 0:=aP.of (by kernel_rfl)
theorem EL:dx Tryz.prog 25 3 true:=⟨fun w=>by kernel_rfl,fun w=>by kernel_rfl⟩
theorem OI:ag Tryz.prog 94:=ag.of Tryz.func94 (by kernel_rfl) (by kernel_rfl)
theorem OJ:ag Tryz.prog 86:=ag.of Tryz.func86 (by kernel_rfl) (by kernel_rfl)
theorem LO:ag Tryz.prog 111:=ag.of Tryz.func111 (by kernel_rfl) (by kernel_rfl)
def lW(k:Nat)(t:bR)(x:Int×Int)(ls:List (List Int)):Option (Bool×List (List Int)):=
 (mj k x ls).bind fun l1=>(kw k t l1).bind fun e=>if IP e=true then(mj k x l1).bind fun l2=>some (!ug e,l2) else none
theorem rL(k:Nat)(t:bR)(x:Int×Int)(ls:List (List Int))(r:Bool×List (List Int))(y m:Nat)(z:Value×(Nat→Value))(h:lW k t x ls=some r):
 cd Tryz.prog 98 [.eq (bP y),.rep eH x] ([.obj y 128 (.agg (.pair (.at ap (t,.map (some m))) (.eq z.1)))]++eM 23 z ls) (fun _:Unit=>(bv [.eq (.bool r.1)],[.obj y 128 (.agg (.pair (.at ap (t,.map (some m))) (.eq z.1)))]++eM 23 z r.2)):=by
 unfold lW at h
 replace h:=ba h
 obtain⟨l1,e1,h⟩:=ab h
 obtain⟨e,e2,h⟩:=ab h
 have he:IP e=true:=by
  apply Classical.byContradiction;intro hn;rw [if_neg hn] at h;cases h
 replace h:=cm he h
 obtain⟨l2,e3,h⟩:=ab h
 cases h
 have cv:=qx k t l1 e e2
 refine JZ 23 Tryz.func98 rfl Tryz.ntmps98 rfl fun S w0=>?_
 refine sr ?_
 refine bx fun b3=>?_
 refine cq ?_
 refine nt ?_
 refine sr ?_
 refine mq ?_
 refine ka (an rfl f5 (xH) rfl) ?_
 refine co (fi (Δ':=([.obj y 128 (.agg (.pair (.at ap (t,.map (some m))) (.eq z.1)))]++eM 23 z ls)++[.obj b3 131 (.rep eH x)]) (List.perm_append_comm (l₁:=([.obj b3 131 (.rep eH x)]:List D)))) ?_
 refine bH (Δ:=_++_) (F:=[_]) (fun _ _ _=>au rfl _) rfl rfl (ar [.tmp 5,.tmp 6] rfl rfl xk rfl (lB k x ls l1 y (t,.map (some m)) z e1)) ⟨rfl,rfl,trivial⟩ fun _=>?_
 refine nt ?_
 refine sr ?_
 refine mq ?_
 refine co (fi (Δ':=[.obj b3 131 (.rep eH x)]++([.obj y 128 (.agg (.pair (.at ap (t,.map (some m))) (.eq z.1)))]++eM 23 z l1)) List.perm_append_comm) ?_
 refine ka (an rfl f5 (xH) rfl) ?_
 refine co (rA 9 rfl fun _ _ _ h=>GT h) ?_
 refine wj (vs:=[bP y,OE x]) [.tmp 8,.tmp 9] rfl rfl rfl rfl rfl ⟨rfl,rfl,trivial⟩ ?_
 refine ak ?_
 refine ae ?_
 refine bS (fi (Δ':=([.obj y 128 (.agg (.pair (.at ap (t,.map (some m))) (.eq z.1)))]++eM 23 z l1)++[.obj b3 131 (.rep eH x)]) (List.perm_append_comm (l₁:=([.obj b3 131 (.rep eH x)]:List D)))) ?_
 show JC _ _ _ _ _
 refine ah ?_
 refine Cj (L:=_++_) (Δ:=[_]) (Γ1:=[(0,.at Ig ((t,.map (some m)),l1))]) (Z:=Unit) (fun _=>[(4,.eq (.bool (!ug e)))]) (fun _=>[.obj b3 131 (.rep eH x)]) (fun S w a hl hk=>xU hl hk rfl) (fun _=>⟨Kz rfl,LK rfl⟩) (fun S w=>?_) (fun _=>?_)
 ·
  refine bZ ?_;refine dm ?_;refine da (dq rfl) ?_;refine da (aM 1 false rfl OD rfl) ?_;refine da (ao (t:=.ptr ap) rfl EM rfl) ?_;refine da (dq rfl) ?_;refine da (aM 3 true rfl LG rfl) ?_;refine da (ao (t:=aI) rfl EL rfl) ?_;refine dm ?_;refine da (dq rfl) ?_;refine da (aM 1 false rfl tc rfl) ?_;refine da (ao (t:=.slice (.slice (.int .i64))) rfl nj rfl) ?_;refine sL (by kernel_rfl) pY ?_;refine jb (ar [.tmp 16,.tmp 20] rfl rfl OI rfl cv) ?_;refine jb (qQ rfl Q3 he) ?_;refine aq (ak ?_);exact fun a w st=>⟨rfl,(),(SE.fin (Γ':=[(4,.eq (.bool (!ug e)))]) [0] ⟨rfl,trivial⟩ rfl) a w st⟩
 ·
  refine tn (aB (Cf (Δ1:=[.obj y 128 (.agg (.pair (.at ap (t,.map (some m))) (.eq z.1)))]++eM 23 z l1) (F:=[.obj b3 131 (.rep eH x)]) xk (lB k x l1 l2 y (t,.map (some m)) z e3 _) xW (fun _=>?_)));refine bS (fi (Δ':=[.obj b3 131 (.rep eH x)]++([.obj y 128 (.agg (.pair (.at ap (t,.map (some m))) (.eq z.1)))]++eM 23 z l2)) List.perm_append_comm) ?_;refine bS (aV (pre':=[.obj y 128 (.agg (.pair (.at ap (t,.map (some m))) (.eq z.1)))]) (Γ':=[(4,.eq (.bool (!ug e)))]) [.obj b3 131 (.rep eH x),.obj y 128 (.agg (.pair (.at ap (t,.map (some m))) (.eq z.1)))] (eM 23 z l2) [1] ⟨rfl,trivial⟩ rfl) ?_;exact ic () [_] ⟨rfl,trivial⟩ rfl
def lX(k:Nat)(t:bR)(x:Int×Int)(ls:List (List Int)):Option (Int×List (List Int)):=
 (mj k x ls).bind fun l1=>(dG k l1).bind fun ld=>(bm k t ld).bind fun n=>(mj k x l1).bind fun l2=>some (n,l2)
theorem rM(k:Nat)(t:bR)(x:Int×Int)(ls:List (List Int))(r:Int×List (List Int))(y m:Nat)(z:Value×(Nat→Value))(h:lX k t x ls=some r):
 c6 (hQ Tryz.prog) 100 [.eq (bP y),.rep eH x] ([.inv m (bi k t)]++([.obj y 128 (.agg (.pair (.at ap (t,.map (some m))) (.eq z.1)))]++eM 23 z ls)) (fun _:Unit=>(bv [I r.1],[.inv m (bi k t)]++([.obj y 128 (.agg (.pair (.at ap (t,.map (some m))) (.eq z.1)))]++eM 23 z r.2))):=by
 unfold lX at h
 replace h:=ba h
 obtain⟨l1,e1,h⟩:=ab h
 obtain⟨ld,e2,h⟩:=ab h
 obtain⟨n,e2',h⟩:=ab h
 obtain⟨l2,e3,h⟩:=ab h
 cases h
 have cv:=eJ k l1 ld e2
 have cl:=gy k t m ld n e2'
 refine zH 20 Tryz.func100 rfl Tryz.ntmps100 rfl fun S w0=>?_
 refine sr ?_
 refine bx fun b3=>?_
 refine cq ?_
 refine nt ?_
 refine sr ?_
 refine mq ?_
 refine ka (an rfl f5 (xH) rfl) ?_
 refine co (fi (Δ':=([.obj y 128 (.agg (.pair (.at ap (t,.map (some m))) (.eq z.1)))]++eM 23 z ls)++[.obj b3 131 (.rep eH x),.inv m (bi k t)]) (List.perm_append_comm (l₁:=([.obj b3 131 (.rep eH x),.inv m (bi k t)]:List D)))) ?_
 refine bH (Δ:=_++_) (F:=[_,_]) (fun _ _ _=>au rfl _) rfl rfl (ar [.tmp 5,.tmp 6] rfl rfl xk rfl (lB k x ls l1 y (t,.map (some m)) z e1)) ⟨rfl,rfl,trivial⟩ fun _=>?_
 refine nt ?_
 refine sr ?_
 refine mq ?_
 refine co (fi (Δ':=[.obj b3 131 (.rep eH x),.inv m (bi k t)]++([.obj y 128 (.agg (.pair (.at ap (t,.map (some m))) (.eq z.1)))]++eM 23 z l1)) List.perm_append_comm) ?_
 refine ka (an rfl f5 (xH) rfl) ?_
 refine co (rA 9 rfl fun _ _ _ h=>GT h) ?_
 refine wj (vs:=[bP y,OE x]) [.tmp 8,.tmp 9] rfl rfl rfl rfl rfl ⟨rfl,rfl,trivial⟩ ?_
 refine ak ?_
 refine ae ?_
 refine bS (fi (Δ':=([.obj y 128 (.agg (.pair (.at ap (t,.map (some m))) (.eq z.1)))]++eM 23 z l1)++[.obj b3 131 (.rep eH x),.inv m (bi k t)]) (List.perm_append_comm (l₁:=([.obj b3 131 (.rep eH x),.inv m (bi k t)]:List D)))) ?_
 show JC _ _ _ _ _
 refine ah ?_
 refine Cj (L:=_++_) (Δ:=[_,_]) (Γ1:=[(0,.at Ig ((t,.map (some m)),l1))]) (Z:=Unit) (fun _=>[(4,I n)]) (fun _=>[.obj b3 131 (.rep eH x),.inv m (bi k t)]) (fun S w a hl hk=>xU hl hk rfl) (fun _=>⟨Kz rfl,Jb rfl rfl⟩) (fun S w=>?_) (fun _=>?_)
 ·
  refine bZ ?_;refine dm ?_;refine da (dq rfl) ?_;refine da (aM 1 false rfl OD rfl) ?_;refine da (ao (t:=.ptr ap) rfl EM rfl) ?_;refine dm ?_;refine da (dq rfl) ?_;refine da (aM 1 false rfl tc rfl) ?_;refine da (ao (t:=.slice (.slice (.int .i64))) rfl nj rfl) ?_;refine da (ar [.tmp 17] rfl rfl OJ rfl cv) ?_;refine sL (by kernel_rfl) pY ?_;refine fr 1 ?_;refine kb (dN [.tmp 13,.tmp 18] rfl rfl LO rfl cl) ?_;refine aq (ak ?_);exact fun a w st=>⟨rfl,(),(SE.fin (Γ':=[(4,I n)]) [1,0] ⟨rfl,trivial⟩ rfl) a w st⟩
 ·
  refine tn (aB (Cf (Δ1:=[.obj y 128 (.agg (.pair (.at ap (t,.map (some m))) (.eq z.1)))]++eM 23 z l1) (F:=[.obj b3 131 (.rep eH x),.inv m (bi k t)]) xk (lB k x l1 l2 y (t,.map (some m)) z e3 _) xW (fun _=>?_)));refine bS (fi (Δ':=[.obj b3 131 (.rep eH x),.inv m (bi k t)]++([.obj y 128 (.agg (.pair (.at ap (t,.map (some m))) (.eq z.1)))]++eM 23 z l2)) List.perm_append_comm) ?_;refine bS (aV (pre':=[.inv m (bi k t),.obj y 128 (.agg (.pair (.at ap (t,.map (some m))) (.eq z.1)))]) (Γ':=[(4,I n)]) [.obj b3 131 (.rep eH x),.inv m (bi k t),.obj y 128 (.agg (.pair (.at ap (t,.map (some m))) (.eq z.1)))] (eM 23 z l2) [1,2] ⟨rfl,trivial⟩ rfl) ?_;exact ic () [_] ⟨rfl,trivial⟩ rfl
theorem rG:∀w,(zeroValue 131).run Tryz.prog w= .ok (.agg #[.int .i64 0,.int .i64 0]) w:=fun w=>by kernel_rfl
theorem uE:∀S w,(A.cells S w (.rep eH (0,0)) (Value.cells (.agg #[.int .i64 0,.int .i64 0])).toList):=fun _ _=>⟨[_],[_],rfl,rfl,rfl⟩
theorem LP:ag Tryz.prog 100:=ag.of Tryz.func100 (by kernel_rfl) (by kernel_rfl)
abbrev KJ:=Int×(Int×Int)×Int×Bool×List (List Int)
def gl(k:Nat)(t:bR)(xs:List (Int×Int)):Nat→KJ→Option ((Int×Int)×Int×Bool×List (List Int))
 |0,_=>none
 |n+1,q=>if q.1 < (xs.length:Int) then((a9 xs q.1).bind fun x=>(lX k t x q.2.2.2.2).bind fun r=>(ck (q.1+1)).bind fun w=>gl k t xs n (if(!q.2.2.2.1 || decide (r.1 < q.2.2.1))=true then(w,x,r.1,true,r.2) else(w,q.2.1,q.2.2.1,q.2.2.2.1,r.2))) else some q.2
def kJ(k:Nat)(t:bR)(xs:List (Int×Int))(ls:List (List Int)):Option ((Int×Int)×Int×Bool×List (List Int)):=gl k t xs k (0,(0,0),0,false,ls)
theorem uP(k:Nat)(t:bR)(xs:List (Int×Int))(ls:List (List Int))(r:(Int×Int)×Int×Bool×List (List Int))(y m:Nat)(z:Value×(Nat→Value))(h:kJ k t xs ls=some r):
 c6 (hQ Tryz.prog) 99 [.eq (.func (.func 100) #[bP y] #[]),Rs eH xs] ([.inv m (bi k t),.obj y 128 (.agg (.pair (.at ap (t,.map (some m))) (.eq z.1)))]++eM 23 z ls) (fun _:Unit=>(bv [.rep eH r.1,I r.2.1,.eq (.bool r.2.2.1)],[.inv m (bi k t),.obj y 128 (.agg (.pair (.at ap (t,.map (some m))) (.eq z.1)))]++eM 23 z r.2.2.2)):=by
 unfold kJ at h
 replace h:=ba h
 refine c6.of 35 Tryz.func99 rfl Tryz.ntmps99 rfl fun S w0=>?_
 refine sr ?_
 refine aD rfl rfl rfl (bF rfl rG uE) trivial fun b4=>?_
 refine cq ?_
 refine cq ?_
 refine nt ?_
 refine sr ?_
 refine aD rfl rfl rfl (bF rfl rG uE) trivial fun b7=>?_
 refine nt ?_
 refine sr ?_
 refine cq ?_
 refine cq ?_
 refine nt ?_
 refine ah ?_
 refine sr ?_
 refine mq ?_
 refine ol MM ?_
 refine eB rfl ?_
 refine nt ?_
 refine aj ?_
 refine aH (Z:=Unit) (α:=KJ) (fun _ q=>[(0,.eq (.func (.func 100) #[bP y] #[])),(4,.eq (bP b4)),(7,.eq (bP b7)),(8,I q.2.2.1),(9,.eq (.bool q.2.2.2.1)),(13,Rs eH xs),(14,I (xs.length:Int)),(15,I q.1)]) (fun _ q=>[.obj b7 131 (.rep eH q.2.1),.obj b4 131 (.rep eH (0,0)),.inv m (bi k t),.obj y 128 (.agg (.pair (.at ap (t,.map (some m))) (.eq z.1)))]++eM 23 z q.2.2.2.2) (gl k t xs) k () (0,(0,0),0,false,ls) (fun _=>rfl) h (aV [.obj b7 131 (.rep eH (0,0)),.obj b4 131 (.rep eH (0,0)),.inv m (bi k t),.obj y 128 (.agg (.pair (.at ap (t,.map (some m))) (.eq z.1)))] (eM 23 z ls) [0,1,2,3] ⟨rfl,rfl,rfl,rfl,rfl,rfl,rfl,rfl,trivial⟩ rfl) (fun n u q h=>?_)
 unfold gl at h
 obtain⟨q1,q2,q3,q4,q5⟩:=q
 refine sr ?_
 refine jb (bz rfl) ?_
 refine nt ?_
 refine ah ?_
 refine bB rfl (fun hb=>?_) (fun hb=>?_)
 ·
  replace h:=cm (l5 hb) h;obtain⟨x,ex,h⟩:=ab h;obtain⟨r1,e,h⟩:=ab h;obtain⟨w,ew,h⟩:=ab h;have cl:=rM k t x q5 r1 y m z e;refine sk (ah (aj (sr (jb (aL (t:=eH) rfl MM f5 ex) ?_))));refine ja (ao (t:=eH) rfl f5 rfl) ?_;refine aD rfl rfl rfl (bF rfl rG uE) trivial fun c=>?_;refine a8 rfl rfl (aW rfl f5 rfl rfl rfl) ⟨rfl,rfl,trivial⟩ ?_;refine nt (sr (mq ?_));refine ka (an rfl f5 (xH) rfl) ?_;refine co (fi (Δ':=([.inv m (bi k t)]++([.obj y 128 (.agg (.pair (.at ap (t,.map (some m))) (.eq z.1)))]++eM 23 z q5))++[.obj c 131 (.rep eH x),.obj b7 131 (.rep eH q2),.obj b4 131 (.rep eH (0,0))]) (List.perm_append_comm (l₁:=([.obj c 131 (.rep eH x),.obj b7 131 (.rep eH q2),.obj b4 131 (.rep eH (0,0))]:List D)))) ?_;refine bH (Δ:=_++_) (F:=[_,_,_]) (fun _ _ _=>au rfl _) rfl rfl (nQ (fs:=[bP y]) (cs:=[]) (ags:=[.rep eH x]) [.tmp 20] rfl rfl LP rfl cl) ⟨rfl,rfl,trivial⟩ fun _=>?_;refine aq ?_;refine co (fi (Δ':=[.obj c 131 (.rep eH x),.obj b7 131 (.rep eH q2),.obj b4 131 (.rep eH (0,0))]++([.inv m (bi k t)]++([.obj y 128 (.agg (.pair (.at ap (t,.map (some m))) (.eq z.1)))]++eM 23 z r1.2))) List.perm_append_comm) ?_;refine nt ?_;cases q4 with
  |false=>
   refine sr (mq ?_);refine ja (fW rfl) ?_;refine mq ?_;iterate 3 refine gn ?_
   refine pt (nt ?_);refine bB rfl (fun hb=>?_) (fun hb=>(by cases hb));refine aa (ka (an rfl f5 (xH) rfl) ?_);refine mq ?_;refine fr 1 ?_;refine a8 rfl rfl (aW rfl f5 rfl rfl rfl) ⟨rfl,rfl,trivial⟩ ?_;refine aq ?_;refine cq (ak (aG (tn (aa ?_))));refine jb (bh rfl ew) ?_;refine mq (nl ?_);exact gP ((),(w,x,r1.1,true,r1.2)) h (aV [.obj b7 131 (.rep eH x),.obj c 131 (.rep eH x),.obj b4 131 (.rep eH (0,0)),.inv m (bi k t),.obj y 128 (.agg (.pair (.at ap (t,.map (some m))) (.eq z.1)))] (eM 23 z r1.2) [0,2,3,4] ⟨rfl,rfl,rfl,rfl,rfl,rfl,rfl,rfl,trivial⟩ rfl)
  |true=>
   refine sr (mq ?_);refine ja (fW rfl) ?_;refine mq ?_;refine gm ?_;refine gm ?_;refine gb (bz rfl) ?_;refine pf (nt ?_);refine bB rfl (fun hb=>?_) (fun hb=>?_)
   ·replace h:(gl k t xs n (w,x,r1.1,true,r1.2)).bind some=some r:=by
     have hd:r1.1 < q3:=of_decide_eq_true hb;simpa [hd] using h
    refine aa (ka (an rfl f5 (xH) rfl) ?_);refine mq ?_;refine fr 1 ?_;refine a8 rfl rfl (aW rfl f5 rfl rfl rfl) ⟨rfl,rfl,trivial⟩ ?_;refine aq ?_;refine cq (ak (aG (tn (aa ?_))));refine jb (bh rfl ew) ?_;refine mq (nl ?_);exact gP ((),(w,x,r1.1,true,r1.2)) h (aV [.obj b7 131 (.rep eH x),.obj c 131 (.rep eH x),.obj b4 131 (.rep eH (0,0)),.inv m (bi k t),.obj y 128 (.agg (.pair (.at ap (t,.map (some m))) (.eq z.1)))] (eM 23 z r1.2) [0,2,3,4] ⟨rfl,rfl,rfl,rfl,rfl,rfl,rfl,rfl,trivial⟩ rfl)
   ·replace h:(gl k t xs n (w,q2,q3,true,r1.2)).bind some=some r:=by
     have hd:¬r1.1 < q3:=of_decide_eq_false hb;simpa [hd] using h
    refine aO (aG (tn (aa (jb (bh rfl ew) ?_))));refine mq (nl ?_);exact gP ((),(w,q2,q3,true,r1.2)) h (aV [.obj c 131 (.rep eH x),.obj b7 131 (.rep eH q2),.obj b4 131 (.rep eH (0,0)),.inv m (bi k t),.obj y 128 (.agg (.pair (.at ap (t,.map (some m))) (.eq z.1)))] (eM 23 z r1.2) [1,2,3,4] ⟨rfl,rfl,rfl,rfl,rfl,rfl,rfl,rfl,trivial⟩ rfl)
 replace h:=bD (lu hb) h
 refine dD ?_
 refine aN ?_
 refine aN ?_
 refine bU ?_
 refine tn ?_
 cases h
 refine sr ?_
 refine ka (an rfl f5 (xH) rfl) ?_
 iterate 2 refine mq ?_
 refine fr 1 ?_
 refine a8 rfl rfl (aW rfl f5 rfl rfl rfl) ⟨rfl,rfl,trivial⟩ ?_
 refine aq ?_
 refine aq ?_
 refine nt ?_
 refine aB ?_
 refine bS (fi (Δ':=([.inv m (bi k t),.obj y 128 (.agg (.pair (.at ap (t,.map (some m))) (.eq z.1)))]++eM 23 z q5)++[.obj b4 131 (.rep eH q2),.obj b7 131 (.rep eH q2)]) (List.perm_append_comm (l₁:=([.obj b4 131 (.rep eH q2),.obj b7 131 (.rep eH q2)]:List D)))) ?_
 exact aJ () [_,_,_] ([.inv m (bi k t),.obj y 128 (.agg (.pair (.at ap (t,.map (some m))) (.eq z.1)))]++eM 23 z q5:List D).length ⟨⟨b4,131,.rep eH q2,2,true,rfl,List.mem_append.2 (.inr (List.mem_cons_self ..)),f5,xH,rfl⟩,rfl,rfl,trivial⟩ (by rw [List.take_left])
theorem pE:ag Tryz.prog 97:=ag.of Tryz.func97 (by kernel_rfl) (by kernel_rfl)
theorem OL:ag Tryz.prog 48:=ag.of Tryz.func48 (by kernel_rfl) (by kernel_rfl)
theorem OK:ag Tryz.prog 84:=ag.of Tryz.func84 (by kernel_rfl) (by kernel_rfl)
theorem OH:ag Tryz.prog 98:=ag.of Tryz.func98 (by kernel_rfl) (by kernel_rfl)
theorem OG:ag Tryz.prog 99:=ag.of Tryz.func99 (by kernel_rfl) (by kernel_rfl)
theorem J4:dx Tryz.prog 22 1 false:=⟨fun w=>by kernel_rfl,fun w=>by kernel_rfl⟩
theorem Ky:aP Tryz.prog 25 1 1:=aP.of (by kernel_rfl)
theorem nn:l7 Tryz.prog 28 23 1 24:=.of (z:=(.slice none 0 0)) lj (by kernel_rfl) rfl rfl rfl
theorem EP:l7 Tryz.prog 129 131 2 16:=.of (z:=(.agg #[.int .i64 0,.int .i64 0])) MM (by kernel_rfl) rfl rfl rfl
theorem La:xF Tryz.prog 128 #[(0,1),(1,1)]:=⟨_,Q1,fun _=>by kernel_rfl⟩
theorem KT:∀w,(zeroValue 128).run Tryz.prog w= .ok (.agg #[.pointer none,.slice none 0 0]) w:=fun w=>by kernel_rfl
theorem MG:∀S w,(A.cells S w (.pair (.eq (.pointer none)) (.eq (.slice none 0 0))) (Value.cells (.agg #[.pointer none,.slice none 0 0])).toList):=fun _ _=>⟨[_],_,rfl,⟨rfl,rfl⟩,rfl,rfl⟩
theorem K9:xF Tryz.prog 131 #[(0,1),(1,1)]:=⟨_,Q0,fun _=>by kernel_rfl⟩
theorem Jw:∀S w,(A.cells S w (.pair (I 0) (I 0)) (Value.cells (.agg #[.int .i64 0,.int .i64 0])).toList):=fun _ _=>⟨[_],_,rfl,⟨rfl,rfl⟩,rfl,rfl⟩
def eT:List Bool→Ga→Ga
 |true::l,e::g=>e::eT l g
 |false::l,_::g=>eT l g
 |_,_=>[]
def lE(y:Nat)(z1:Value)(l:List Int)(v v2:Value):Ga:=[(39,.eq (bP y)),(40,.eq (bP y)),(41,.eq (bP y)),(42,.eq (.pointer (some ⟨y,0+1,none⟩))),(43,.eq z1),(44,Ri l),(45,.eq v),(46,.rep (.slice .val) [v]),(47,.eq v2),(48,.eq (bP y)),(49,.eq (.pointer (some ⟨y,0+1,none⟩)))]
def kM(b2 y:Nat)(n i:Int)(l:List Int)(a1:List (List Int)):Ga:=[(2,.eq (bP b2)),(8,I n),(10,.eq (bP y)),(12,Ri l),(33,.rep (.slice (.slice (.int .i64))) a1),(34,I (a1.length:Int)),(35,I i)]
theorem PN{i j:Int}:AE (.agg (.pair (I i) (I j))) (.rep eH (i,j)):=fun S w cs h=>by
 obtain⟨c1,c2,e,h1,h2⟩:=h
 exact⟨c1,c2,e,h1.1,h2.1⟩
def lD(k:Nat)(a1:List (List Int)):Nat→Int×List (List Int)→Option (List (List Int))
 |0,_=>none
 |n+1,q=>if q.1 < (a1.length:Int) then((a9 a1 q.1).bind fun l=>(jH k l).bind fun l2=>if bV (q.2.length+1) then(ck (q.1+1)).bind fun w=>lD k a1 n (w,q.2++[l2]) else none) else some q.2
def jO(k:Nat)(t:bR)(i:Int):Nat→Int×List (Int×Int)×List (List Int)→Option (List (Int×Int)×List (List Int))
 |0,_=>none
 |n+1,q=>if q.1 < (t.2.1.length:Int) then((lW k t (i,q.1) q.2.2).bind fun r=>if r.1=true then(if bV (q.2.1.length+1) then(ck (q.1+1)).bind fun w=>jO k t i n (w,q.2.1++[(i,q.1)],r.2) else none) else(ck (q.1+1)).bind fun w=>jO k t i n (w,q.2.1,r.2)) else some q.2
def iG(k:Nat)(t:bR):Nat→Int×List (Int×Int)×List (List Int)→Option (List (Int×Int)×List (List Int))
 |0,_=>none
 |n+1,q=>if q.1 < (t.2.1.length:Int) then((ck (q.1+1)).bind fun w=>(jO k t q.1 k (w,q.2)).bind fun p=>iG k t n (w,p)) else some q.2
def tG(k:Nat)(a0:bR)(a1:(List (List Int))):Option (Int×Int×Int×Int):=
 (jj k a0 a1).bind fun L=>if¬(L.2=0) then some (0,0,0,L.2) else
 (lD k a1 k (0,[])).bind fun ls=>(iG k a0 k (0,[],ls)).bind fun p=>(kJ k a0 p.1 p.2).bind fun b=>
 if(!b.2.2.1 || decide (L.1≤b.2.1))=true then some (0,0,0,11) else some (b.1.1,b.1.2,b.2.1,0)
theorem xZ(k:Nat)(a0:bR)(a1:(List (List Int)))(r:Int×Int×Int×Int)(h:tG k a0 a1=some r):
 c6 (hQ Tryz.prog) 40 [.rep aI a0,.rep (.slice (.slice (.int .i64))) a1] [.inv 0 eF] (fun _:Unit=>(bv [.eq (.int .i64 r.1),.eq (.int .i64 r.2.1),.eq (.int .i64 r.2.2.1),.eq (.int .i64 r.2.2.2)],[.inv 0 eF])):=by
 unfold tG at h
 replace h:=ba h
 refine c6.of 97 Tryz.func40 rfl Tryz.ntmps40 rfl fun S w0=>?_
 refine ah ?_
 refine aa ?_
 refine aD rfl rfl rfl (nq rfl rfl) ⟨rfl,trivial⟩ fun b2=>?_
 refine dA rfl ?_
 refine dA rfl ?_
 refine dA rfl ?_
 refine dA rfl ?_
 refine ak ?_
 refine ae ?_
 show JC _ _ _ _ _
 obtain⟨L,eL,h⟩:=ab h
 have cL:=mR k a0 a1 L eL
 refine ah ?_
 refine aa ?_
 refine bT rfl rfl rfl (an rfl EL (xH) rfl) ⟨rfl,trivial⟩ ?_
 refine aw rfl rfl ?_
 refine bq 1 rfl ?_
 refine bT rfl rfl rfl (dN [.tmp 21,.tmp 22] rfl rfl OL rfl cL) ⟨rfl,rfl,trivial⟩ ?_
 refine aw rfl rfl ?_
 refine aA rfl (gq rfl rfl) ⟨rfl,trivial⟩ ?_
 refine aA rfl (gq rfl rfl) ⟨rfl,trivial⟩ ?_
 refine dc rfl rfl ?_
 refine dc rfl rfl ?_
 refine ak ?_
 refine ae ?_
 show JC _ _ _ _ _
 refine ah ?_
 refine ah ?_
 refine aa ?_
 refine aw rfl rfl ?_
 refine aA rfl (iH rfl) ⟨rfl,rfl,trivial⟩ ?_
 refine ak ?_
 refine ae ?_
 show JC _ _ _ _ _
 refine bB rfl (fun hb=>?_) (fun hb=>?_)
 ·
  replace h:=cm (NV hb) h
  refine ah ?_
  refine aa ?_
  refine aw rfl rfl ?_
  refine dA rfl ?_
  refine dA rfl ?_
  refine dA rfl ?_
  refine dc rfl rfl ?_
  refine ak ?_
  refine ae ?_
  show JC _ _ _ _ _
  refine aB ?_
  refine aX ?_
  obtain rfl:=Option.some.inj h
  exact aJ () [_,_,_,_] 1 ⟨rfl,rfl,rfl,rfl,trivial⟩ rfl
 replace h:=bD (FY hb) h
 refine aO ?_
 refine ae ?_
 show JC _ _ _ _ _
 rw [Option.bind_assoc] at h
 refine ah ?_
 refine aa ?_
 refine bq 1 rfl ?_
 refine bT rfl rfl rfl (an rfl EL (xH) rfl) ⟨rfl,trivial⟩ ?_
 refine aD rfl rfl rfl (ar [.tmp 29] rfl rfl OK rfl (fD a0)) ⟨rfl,trivial⟩ fun m=>?_
 refine co (jD (bi k a0) kC) ?_
 refine aA rfl (dr [(0,.tmp 30,_)] rfl La KT MG (iS ⟨trivial,trivial⟩) rfl) ⟨rfl,trivial⟩ ?_
 refine aD rfl rfl rfl (nq rfl trivial) ⟨rfl,trivial⟩ fun y=>?_
 refine dc rfl rfl ?_
 refine ak ?_
 refine ae ?_
 show JC _ _ _ _ _
 refine ah ?_
 refine ah ?_
 refine aa ?_
 refine aw rfl rfl ?_
 refine aA rfl (jg rfl rfl lj) ⟨rfl,trivial⟩ ?_
 refine eB rfl ?_
 refine co (SE.nil 23 .val) ?_
 refine co (fi (Δ':=[.obj y 128 (.agg (.pair (.at ap (a0,.map (some m))) (.eq (.slice none 0 0)))),.inv m (bi k a0),.obj b2 25 (.rep aI a0),.inv 0 eF]++eM 23 (.slice none 0 0,fun _=>undef) []) (List.Perm.trans (List.perm_append_comm (l₁:=([.sl (.slice none 0 0) 23 .val []]:List D))) (List.Perm.refl _))) ?_
 refine ak ?_
 refine ae ?_
 show JC _ _ _ _ _
 refine aj ?_
 refine aH (Z:=Value×(Nat→Value)) (α:=Int×List (List Int)) (fun z q=>[(2,.eq (bP b2)),(8,.eq (.int .i64 L.1)),(10,.eq (bP y)),(33,.rep (.slice (.slice (.int .i64))) a1),(34,.eq (.int .i64 (a1.length:Int))),(35,.eq (.int .i64 q.1))]) (fun z q=>[.obj y 128 (.agg (.pair (.at ap (a0,.map (some m))) (.eq z.1))),.inv m (bi k a0),.obj b2 25 (.rep aI a0),.inv 0 eF]++eM 23 z q.2) (lD k a1) k (.slice none 0 0,fun _=>undef) (0,[]) (fun _=>rfl) h (aV [.obj y 128 (.agg (.pair (.at ap (a0,.map (some m))) (.eq (.slice none 0 0)))),.inv m (bi k a0),.obj b2 25 (.rep aI a0),.inv 0 eF] (eM 23 (.slice none 0 0,fun _=>undef) []) [0,1,2,3] ⟨rfl,rfl,rfl,rfl,rfl,rfl,trivial⟩ rfl) (fun n z q h=>?_)
 unfold lD at h
 refine ah ?_
 refine aa ?_
 refine aA rfl (bz rfl) ⟨rfl,rfl,trivial⟩ ?_
 refine ak ?_
 refine ae ?_
 show JC _ _ _ _ _
 refine ah ?_
 refine bB rfl (fun hb=>?_) (fun hb=>?_)
 ·
  replace h:=cm (l5 hb) h
  obtain⟨q1,q2⟩:=q
  obtain⟨l,el,h⟩:=ab h
  obtain⟨l2,el2,h⟩:=ab h
  have hk:bV (q2.length+1):=by
   apply Classical.byContradiction
   intro hn
   rw [if_neg hn] at h
   cases h
  replace h:=cm hk h
  have cc:=my k l l2 el2
  refine aO ?_
  refine ae ?_
  show JC _ _ _ _ _
  refine ah ?_
  refine aj ?_
  refine ah ?_
  refine aa ?_
  refine aA rfl (aL (t:=.slice (.int .i64)) rfl lj Bf el) ⟨rfl,rfl,trivial⟩ ?_
  refine aA rfl (ao (t:=.slice (.int .i64)) rfl Bf rfl) ⟨rfl,trivial⟩ ?_
  refine dc rfl rfl ?_
  refine ak ?_
  refine ae ?_
  show JC _ _ _ _ _
  refine fP (Cb (pre:=[.obj y 128 (.agg (.pair (.at ap (a0,.map (some m))) (.eq z.1))),.inv m (bi k a0),.obj b2 25 (.rep aI a0),.inv 0 eF])) ?_
  refine dV 1 rfl ?_
  refine fP (SE.sub (Γ':=kM b2 y L.1 q1 l a1) ⟨rfl,rfl,rfl,rfl,rfl,rfl,rfl,trivial⟩) ?_
  generalize hB:kM b2 y L.1 q1 l a1=B
  refine uL (Δ:=[.obj y 128 (.agg (.pair (.at ap (a0,.map (some m))) (.eq z.1))),.sl z.1 23 .val (eV z.2 0 q2)]) (F:=[.inv m (bi k a0),.obj b2 25 (.rep aI a0),.inv 0 eF]++kz z.2 0 q2) (Z:=Value×Value) (fun p=>B) (fun p=>[.obj y 128 (.agg (.pair (.at ap (a0,.map (some m))) (.eq p.2))),.sl p.2 23 .val (eV z.2 0 q2++[p.1]),.sl p.1 3 (.int .i64) l2]) (fun S w=>?_) (fun p=>?_)
  ·
   subst hB
   refine HJ (I:=Value×Value) (Ge:=fun _=>kM b2 y L.1 q1 l a1) (De:=fun p=>[.obj y 128 (.agg (.pair (.at ap (a0,.map (some m))) (.eq p.2))),.sl p.2 23 .val (eV z.2 0 q2++[p.1]),.sl p.1 3 (.int .i64) l2]) (L:=[true,true,true,true,true,true,true,true,true,true,true,true]) pY rfl (fun J hJ hE=>?_) (by kernel_rfl) (fun p=>?_)
   ·
    have s2047:∀(v v2:Value),J 1 [true,true,true,true,true,true,true,true,true,true,true,false] (eT [true,true,true,true,true,true,true,true,true,true,true,false] (lE y z.1 l v v2)++kM b2 y L.1 q1 l a1) [.obj y 128 (.agg (.pair (.at ap (a0,.map (some m))) (.eq z.1))),.sl v2 23 .val (eV z.2 0 q2++[v]),.sl v 3 (.int .i64) l2]:=fun v v2=>by
     subst hJ
     refine JD.step [11] (by kernel_rfl) rfl ?_
     refine eQ.cons rfl ?_ ?_
     ·
      refine bq 1 rfl ?_
      refine fO fun hv=>?_
      refine bq 1 rfl ?_
      refine a8 rfl rfl (aW rfl nj hv rfl rfl) ⟨rfl,rfl,trivial⟩ ?_
      exact aU (hE (v,v2)) [0,1,2] ⟨rfl,rfl,rfl,rfl,rfl,rfl,rfl,trivial⟩
     exact trivial
    have s1023:∀(v v2:Value),J 2 [true,true,true,true,true,true,true,true,true,true,false,false] (eT [true,true,true,true,true,true,true,true,true,true,false,false] (lE y z.1 l v v2)++kM b2 y L.1 q1 l a1) [.obj y 128 (.agg (.pair (.at ap (a0,.map (some m))) (.eq z.1))),.sl v2 23 .val (eV z.2 0 q2++[v]),.sl v 3 (.int .i64) l2]:=fun v v2=>by
     subst hJ
     refine JD.step [10] (by kernel_rfl) rfl ?_
     refine eQ.cons rfl ?_ ?_
     ·
      refine aA rfl (ax rfl tc) ⟨rfl,trivial⟩ ?_
      exact aU (s2047 v v2) [0,1,2] ⟨rfl,rfl,rfl,rfl,rfl,rfl,rfl,rfl,rfl,rfl,rfl,rfl,rfl,rfl,rfl,rfl,rfl,rfl,trivial⟩
     exact trivial
    have s511:∀(v v2:Value),J 3 [true,true,true,true,true,true,true,true,true,false,false,false] (eT [true,true,true,true,true,true,true,true,true,false,false,false] (lE y z.1 l v v2)++kM b2 y L.1 q1 l a1) [.obj y 128 (.agg (.pair (.at ap (a0,.map (some m))) (.eq z.1))),.sl v2 23 .val (eV z.2 0 q2++[v]),.sl v 3 (.int .i64) l2]:=fun v v2=>by
     subst hJ
     refine JD.step [9] (by kernel_rfl) rfl ?_
     refine eQ.cons rfl ?_ ?_
     ·
      refine aA rfl (aR rfl) ⟨rfl,trivial⟩ ?_
      exact aU (s1023 v v2) [0,1,2] ⟨rfl,rfl,rfl,rfl,rfl,rfl,rfl,rfl,rfl,rfl,rfl,rfl,rfl,rfl,rfl,rfl,rfl,trivial⟩
     exact trivial
    have s255:∀(v:Value),J 4 [true,true,true,true,true,true,true,true,false,false,false,false] (eT [true,true,true,true,true,true,true,true,false,false,false,false] (lE y z.1 l v undef)++kM b2 y L.1 q1 l a1) [.obj y 128 (.agg (.pair (.at ap (a0,.map (some m))) (.eq z.1))),.sl z.1 23 .val (eV z.2 0 q2),.sl v 3 (.int .i64) l2]:=fun v=>by
     subst hJ
     refine JD.step [8] (by kernel_rfl) rfl ?_
     refine eQ.cons rfl ?_ ?_
     ·
      refine bq 1 rfl ?_
      refine dS rfl rfl rfl (ct rfl rfl nn (by simpa [fZ] using hk)) ⟨rfl,rfl,trivial⟩ fun v2=>?_
      exact aU (s511 v v2) [1,0,2] ⟨rfl,rfl,rfl,rfl,rfl,rfl,rfl,rfl,rfl,rfl,rfl,rfl,rfl,rfl,rfl,rfl,trivial⟩
     exact trivial
    have s510:∀(v v2:Value),J 4 [false,true,true,true,true,true,true,true,true,false,false,false] (eT [false,true,true,true,true,true,true,true,true,false,false,false] (lE y z.1 l v v2)++kM b2 y L.1 q1 l a1) [.obj y 128 (.agg (.pair (.at ap (a0,.map (some m))) (.eq z.1))),.sl v2 23 .val (eV z.2 0 q2++[v]),.sl v 3 (.int .i64) l2]:=fun v v2=>by
     subst hJ
     refine JD.step [0] (by kernel_rfl) rfl ?_
     refine eQ.cons rfl ?_ ?_
     ·
      refine aw rfl rfl ?_
      exact aU (s511 v v2) [0,1,2] ⟨rfl,rfl,rfl,rfl,rfl,rfl,rfl,rfl,rfl,rfl,rfl,rfl,rfl,rfl,rfl,rfl,trivial⟩
     exact trivial
    have s127:∀(v:Value),J 5 [true,true,true,true,true,true,true,false,false,false,false,false] (eT [true,true,true,true,true,true,true,false,false,false,false,false] (lE y z.1 l v undef)++kM b2 y L.1 q1 l a1) [.obj y 128 (.agg (.pair (.at ap (a0,.map (some m))) (.eq z.1))),.sl z.1 23 .val (eV z.2 0 q2),.sl v 3 (.int .i64) l2]:=fun v=>by
     subst hJ
     refine JD.step [7] (by kernel_rfl) rfl ?_
     refine eQ.cons rfl ?_ ?_
     ·
      refine bq 2 rfl ?_
      refine fO fun hv=>?_
      refine aA rfl (bu (t:=.val) [(.tmp 45,.eq v)] [v] rfl rfl nn (.cons hv (.val hv) .nil) rfl rfl) ⟨rfl,trivial⟩ ?_
      exact aU (s255 v) [1,2,0] ⟨rfl,rfl,rfl,rfl,rfl,rfl,rfl,rfl,rfl,rfl,rfl,rfl,rfl,rfl,rfl,trivial⟩
     exact trivial
    have s239:∀(v:Value),J 5 [true,true,true,true,false,true,true,true,false,false,false,false] (eT [true,true,true,true,false,true,true,true,false,false,false,false] (lE y z.1 l v undef)++kM b2 y L.1 q1 l a1) [.obj y 128 (.agg (.pair (.at ap (a0,.map (some m))) (.eq z.1))),.sl z.1 23 .val (eV z.2 0 q2),.sl v 3 (.int .i64) l2]:=fun v=>by
     subst hJ
     refine JD.step [4] (by kernel_rfl) rfl ?_
     refine eQ.cons rfl ?_ ?_
     ·
      refine bT rfl rfl rfl (an rfl nj mN rfl) ⟨rfl,trivial⟩ ?_
      exact aU (s255 v) [0,1,2] ⟨rfl,rfl,rfl,rfl,rfl,rfl,rfl,rfl,rfl,rfl,rfl,rfl,rfl,rfl,rfl,trivial⟩
     exact trivial
    have s254:∀(v:Value),J 5 [false,true,true,true,true,true,true,true,false,false,false,false] (eT [false,true,true,true,true,true,true,true,false,false,false,false] (lE y z.1 l v undef)++kM b2 y L.1 q1 l a1) [.obj y 128 (.agg (.pair (.at ap (a0,.map (some m))) (.eq z.1))),.sl z.1 23 .val (eV z.2 0 q2),.sl v 3 (.int .i64) l2]:=fun v=>by
     subst hJ
     refine JD.step [0,8] (by kernel_rfl) rfl ?_
     refine eQ.cons rfl ?_ ?_
     ·
      refine aw rfl rfl ?_
      exact aU (s255 v) [0,1,2] ⟨rfl,rfl,rfl,rfl,rfl,rfl,rfl,rfl,rfl,rfl,rfl,rfl,rfl,rfl,rfl,trivial⟩
     refine eQ.cons rfl ?_ ?_
     ·
      refine bq 1 rfl ?_
      refine dS rfl rfl rfl (ct rfl rfl nn (by simpa [fZ] using hk)) ⟨rfl,rfl,trivial⟩ fun v2=>?_
      exact aU (s510 v v2) [1,0,2] ⟨rfl,rfl,rfl,rfl,rfl,rfl,rfl,rfl,rfl,rfl,rfl,rfl,rfl,rfl,rfl,trivial⟩
     exact trivial
    have s63:J 6 [true,true,true,true,true,true,false,false,false,false,false,false] (eT [true,true,true,true,true,true,false,false,false,false,false,false] (lE y z.1 l undef undef)++kM b2 y L.1 q1 l a1) [.obj y 128 (.agg (.pair (.at ap (a0,.map (some m))) (.eq z.1))),.sl z.1 23 .val (eV z.2 0 q2)]:=by
     subst hJ
     refine JD.step [6] (by kernel_rfl) rfl ?_
     refine eQ.cons rfl ?_ ?_
     ·
      refine aD rfl rfl rfl (ar [.tmp 44] rfl rfl pE rfl cc) ⟨rfl,trivial⟩ fun v=>?_
      exact aU (s127 v) [1,2,0] ⟨rfl,rfl,rfl,rfl,rfl,rfl,rfl,rfl,rfl,rfl,rfl,rfl,rfl,rfl,trivial⟩
     exact trivial
    have s111:∀(v:Value),J 6 [true,true,true,true,false,true,true,false,false,false,false,false] (eT [true,true,true,true,false,true,true,false,false,false,false,false] (lE y z.1 l v undef)++kM b2 y L.1 q1 l a1) [.obj y 128 (.agg (.pair (.at ap (a0,.map (some m))) (.eq z.1))),.sl z.1 23 .val (eV z.2 0 q2),.sl v 3 (.int .i64) l2]:=fun v=>by
     subst hJ
     refine JD.step [4,7] (by kernel_rfl) rfl ?_
     refine eQ.cons rfl ?_ ?_
     ·
      refine bT rfl rfl rfl (an rfl nj mN rfl) ⟨rfl,trivial⟩ ?_
      exact aU (s127 v) [0,1,2] ⟨rfl,rfl,rfl,rfl,rfl,rfl,rfl,rfl,rfl,rfl,rfl,rfl,rfl,rfl,trivial⟩
     refine eQ.cons rfl ?_ ?_
     ·
      refine bq 2 rfl ?_
      refine fO fun hv=>?_
      refine aA rfl (bu (t:=.val) [(.tmp 45,.eq v)] [v] rfl rfl nn (.cons hv (.val hv) .nil) rfl rfl) ⟨rfl,trivial⟩ ?_
      exact aU (s239 v) [1,2,0] ⟨rfl,rfl,rfl,rfl,rfl,rfl,rfl,rfl,rfl,rfl,rfl,rfl,rfl,rfl,trivial⟩
     exact trivial
    have s126:∀(v:Value),J 6 [false,true,true,true,true,true,true,false,false,false,false,false] (eT [false,true,true,true,true,true,true,false,false,false,false,false] (lE y z.1 l v undef)++kM b2 y L.1 q1 l a1) [.obj y 128 (.agg (.pair (.at ap (a0,.map (some m))) (.eq z.1))),.sl z.1 23 .val (eV z.2 0 q2),.sl v 3 (.int .i64) l2]:=fun v=>by
     subst hJ
     refine JD.step [0,7] (by kernel_rfl) rfl ?_
     refine eQ.cons rfl ?_ ?_
     ·
      refine aw rfl rfl ?_
      exact aU (s127 v) [0,1,2] ⟨rfl,rfl,rfl,rfl,rfl,rfl,rfl,rfl,rfl,rfl,rfl,rfl,rfl,rfl,trivial⟩
     refine eQ.cons rfl ?_ ?_
     ·
      refine bq 2 rfl ?_
      refine fO fun hv=>?_
      refine aA rfl (bu (t:=.val) [(.tmp 45,.eq v)] [v] rfl rfl nn (.cons hv (.val hv) .nil) rfl rfl) ⟨rfl,trivial⟩ ?_
      exact aU (s254 v) [1,2,0] ⟨rfl,rfl,rfl,rfl,rfl,rfl,rfl,rfl,rfl,rfl,rfl,rfl,rfl,rfl,trivial⟩
     exact trivial
    have s231:∀(v:Value),J 6 [true,true,true,false,false,true,true,true,false,false,false,false] (eT [true,true,true,false,false,true,true,true,false,false,false,false] (lE y z.1 l v undef)++kM b2 y L.1 q1 l a1) [.obj y 128 (.agg (.pair (.at ap (a0,.map (some m))) (.eq z.1))),.sl z.1 23 .val (eV z.2 0 q2),.sl v 3 (.int .i64) l2]:=fun v=>by
     subst hJ
     refine JD.step [3] (by kernel_rfl) rfl ?_
     refine eQ.cons rfl ?_ ?_
     ·
      refine aA rfl (ax rfl tc) ⟨rfl,trivial⟩ ?_
      exact aU (s239 v) [0,1,2] ⟨rfl,rfl,rfl,rfl,rfl,rfl,rfl,rfl,rfl,rfl,rfl,rfl,rfl,rfl,trivial⟩
     exact trivial
    have s238:∀(v:Value),J 6 [false,true,true,true,false,true,true,true,false,false,false,false] (eT [false,true,true,true,false,true,true,true,false,false,false,false] (lE y z.1 l v undef)++kM b2 y L.1 q1 l a1) [.obj y 128 (.agg (.pair (.at ap (a0,.map (some m))) (.eq z.1))),.sl z.1 23 .val (eV z.2 0 q2),.sl v 3 (.int .i64) l2]:=fun v=>by
     subst hJ
     refine JD.step [0,4] (by kernel_rfl) rfl ?_
     refine eQ.cons rfl ?_ ?_
     ·
      refine aw rfl rfl ?_
      exact aU (s239 v) [0,1,2] ⟨rfl,rfl,rfl,rfl,rfl,rfl,rfl,rfl,rfl,rfl,rfl,rfl,rfl,rfl,trivial⟩
     refine eQ.cons rfl ?_ ?_
     ·
      refine bT rfl rfl rfl (an rfl nj mN rfl) ⟨rfl,trivial⟩ ?_
      exact aU (s254 v) [0,1,2] ⟨rfl,rfl,rfl,rfl,rfl,rfl,rfl,rfl,rfl,rfl,rfl,rfl,rfl,rfl,trivial⟩
     exact trivial
    have s31:J 7 [true,true,true,true,true,false,false,false,false,false,false,false] (eT [true,true,true,true,true,false,false,false,false,false,false,false] (lE y z.1 l undef undef)++kM b2 y L.1 q1 l a1) [.obj y 128 (.agg (.pair (.at ap (a0,.map (some m))) (.eq z.1))),.sl z.1 23 .val (eV z.2 0 q2)]:=by
     subst hJ
     refine JD.step [5] (by kernel_rfl) rfl ?_
     refine eQ.cons rfl ?_ ?_
     ·
      refine aw rfl rfl ?_
      exact aU (s63) [0,1] ⟨rfl,rfl,rfl,rfl,rfl,rfl,rfl,rfl,rfl,rfl,rfl,rfl,rfl,trivial⟩
     exact trivial
    have s47:J 7 [true,true,true,true,false,true,false,false,false,false,false,false] (eT [true,true,true,true,false,true,false,false,false,false,false,false] (lE y z.1 l undef undef)++kM b2 y L.1 q1 l a1) [.obj y 128 (.agg (.pair (.at ap (a0,.map (some m))) (.eq z.1))),.sl z.1 23 .val (eV z.2 0 q2)]:=by
     subst hJ
     refine JD.step [4,6] (by kernel_rfl) rfl ?_
     refine eQ.cons rfl ?_ ?_
     ·
      refine bT rfl rfl rfl (an rfl nj mN rfl) ⟨rfl,trivial⟩ ?_
      exact aU (s63) [0,1] ⟨rfl,rfl,rfl,rfl,rfl,rfl,rfl,rfl,rfl,rfl,rfl,rfl,rfl,trivial⟩
     refine eQ.cons rfl ?_ ?_
     ·
      refine aD rfl rfl rfl (ar [.tmp 44] rfl rfl pE rfl cc) ⟨rfl,trivial⟩ fun v=>?_
      exact aU (s111 v) [1,2,0] ⟨rfl,rfl,rfl,rfl,rfl,rfl,rfl,rfl,rfl,rfl,rfl,rfl,rfl,trivial⟩
     exact trivial
    have s62:J 7 [false,true,true,true,true,true,false,false,false,false,false,false] (eT [false,true,true,true,true,true,false,false,false,false,false,false] (lE y z.1 l undef undef)++kM b2 y L.1 q1 l a1) [.obj y 128 (.agg (.pair (.at ap (a0,.map (some m))) (.eq z.1))),.sl z.1 23 .val (eV z.2 0 q2)]:=by
     subst hJ
     refine JD.step [0,6] (by kernel_rfl) rfl ?_
     refine eQ.cons rfl ?_ ?_
     ·
      refine aw rfl rfl ?_
      exact aU (s63) [0,1] ⟨rfl,rfl,rfl,rfl,rfl,rfl,rfl,rfl,rfl,rfl,rfl,rfl,rfl,trivial⟩
     refine eQ.cons rfl ?_ ?_
     ·
      refine aD rfl rfl rfl (ar [.tmp 44] rfl rfl pE rfl cc) ⟨rfl,trivial⟩ fun v=>?_
      exact aU (s126 v) [1,2,0] ⟨rfl,rfl,rfl,rfl,rfl,rfl,rfl,rfl,rfl,rfl,rfl,rfl,rfl,trivial⟩
     exact trivial
    have s103:∀(v:Value),J 7 [true,true,true,false,false,true,true,false,false,false,false,false] (eT [true,true,true,false,false,true,true,false,false,false,false,false] (lE y z.1 l v undef)++kM b2 y L.1 q1 l a1) [.obj y 128 (.agg (.pair (.at ap (a0,.map (some m))) (.eq z.1))),.sl z.1 23 .val (eV z.2 0 q2),.sl v 3 (.int .i64) l2]:=fun v=>by
     subst hJ
     refine JD.step [3,7] (by kernel_rfl) rfl ?_
     refine eQ.cons rfl ?_ ?_
     ·
      refine aA rfl (ax rfl tc) ⟨rfl,trivial⟩ ?_
      exact aU (s111 v) [0,1,2] ⟨rfl,rfl,rfl,rfl,rfl,rfl,rfl,rfl,rfl,rfl,rfl,rfl,rfl,trivial⟩
     refine eQ.cons rfl ?_ ?_
     ·
      refine bq 2 rfl ?_
      refine fO fun hv=>?_
      refine aA rfl (bu (t:=.val) [(.tmp 45,.eq v)] [v] rfl rfl nn (.cons hv (.val hv) .nil) rfl rfl) ⟨rfl,trivial⟩ ?_
      exact aU (s231 v) [1,2,0] ⟨rfl,rfl,rfl,rfl,rfl,rfl,rfl,rfl,rfl,rfl,rfl,rfl,rfl,trivial⟩
     exact trivial
    have s110:∀(v:Value),J 7 [false,true,true,true,false,true,true,false,false,false,false,false] (eT [false,true,true,true,false,true,true,false,false,false,false,false] (lE y z.1 l v undef)++kM b2 y L.1 q1 l a1) [.obj y 128 (.agg (.pair (.at ap (a0,.map (some m))) (.eq z.1))),.sl z.1 23 .val (eV z.2 0 q2),.sl v 3 (.int .i64) l2]:=fun v=>by
     subst hJ
     refine JD.step [0,4,7] (by kernel_rfl) rfl ?_
     refine eQ.cons rfl ?_ ?_
     ·
      refine aw rfl rfl ?_
      exact aU (s111 v) [0,1,2] ⟨rfl,rfl,rfl,rfl,rfl,rfl,rfl,rfl,rfl,rfl,rfl,rfl,rfl,trivial⟩
     refine eQ.cons rfl ?_ ?_
     ·
      refine bT rfl rfl rfl (an rfl nj mN rfl) ⟨rfl,trivial⟩ ?_
      exact aU (s126 v) [0,1,2] ⟨rfl,rfl,rfl,rfl,rfl,rfl,rfl,rfl,rfl,rfl,rfl,rfl,rfl,trivial⟩
     refine eQ.cons rfl ?_ ?_
     ·
      refine bq 2 rfl ?_
      refine fO fun hv=>?_
      refine aA rfl (bu (t:=.val) [(.tmp 45,.eq v)] [v] rfl rfl nn (.cons hv (.val hv) .nil) rfl rfl) ⟨rfl,trivial⟩ ?_
      exact aU (s238 v) [1,2,0] ⟨rfl,rfl,rfl,rfl,rfl,rfl,rfl,rfl,rfl,rfl,rfl,rfl,rfl,trivial⟩
     exact trivial
    have s227:∀(v:Value),J 7 [true,true,false,false,false,true,true,true,false,false,false,false] (eT [true,true,false,false,false,true,true,true,false,false,false,false] (lE y z.1 l v undef)++kM b2 y L.1 q1 l a1) [.obj y 128 (.agg (.pair (.at ap (a0,.map (some m))) (.eq z.1))),.sl z.1 23 .val (eV z.2 0 q2),.sl v 3 (.int .i64) l2]:=fun v=>by
     subst hJ
     refine JD.step [2] (by kernel_rfl) rfl ?_
     refine eQ.cons rfl ?_ ?_
     ·
      refine aA rfl (aR rfl) ⟨rfl,trivial⟩ ?_
      exact aU (s231 v) [0,1,2] ⟨rfl,rfl,rfl,rfl,rfl,rfl,rfl,rfl,rfl,rfl,rfl,rfl,rfl,trivial⟩
     exact trivial
    have s230:∀(v:Value),J 7 [false,true,true,false,false,true,true,true,false,false,false,false] (eT [false,true,true,false,false,true,true,true,false,false,false,false] (lE y z.1 l v undef)++kM b2 y L.1 q1 l a1) [.obj y 128 (.agg (.pair (.at ap (a0,.map (some m))) (.eq z.1))),.sl z.1 23 .val (eV z.2 0 q2),.sl v 3 (.int .i64) l2]:=fun v=>by
     subst hJ
     refine JD.step [0,3] (by kernel_rfl) rfl ?_
     refine eQ.cons rfl ?_ ?_
     ·
      refine aw rfl rfl ?_
      exact aU (s231 v) [0,1,2] ⟨rfl,rfl,rfl,rfl,rfl,rfl,rfl,rfl,rfl,rfl,rfl,rfl,rfl,trivial⟩
     refine eQ.cons rfl ?_ ?_
     ·
      refine aA rfl (ax rfl tc) ⟨rfl,trivial⟩ ?_
      exact aU (s238 v) [0,1,2] ⟨rfl,rfl,rfl,rfl,rfl,rfl,rfl,rfl,rfl,rfl,rfl,rfl,rfl,trivial⟩
     exact trivial
    have s15:J 8 [true,true,true,true,false,false,false,false,false,false,false,false] (eT [true,true,true,true,false,false,false,false,false,false,false,false] (lE y z.1 l undef undef)++kM b2 y L.1 q1 l a1) [.obj y 128 (.agg (.pair (.at ap (a0,.map (some m))) (.eq z.1))),.sl z.1 23 .val (eV z.2 0 q2)]:=by
     subst hJ
     refine JD.step [4,5] (by kernel_rfl) rfl ?_
     refine eQ.cons rfl ?_ ?_
     ·
      refine bT rfl rfl rfl (an rfl nj mN rfl) ⟨rfl,trivial⟩ ?_
      exact aU (s31) [0,1] ⟨rfl,rfl,rfl,rfl,rfl,rfl,rfl,rfl,rfl,rfl,rfl,rfl,trivial⟩
     refine eQ.cons rfl ?_ ?_
     ·
      refine aw rfl rfl ?_
      exact aU (s47) [0,1] ⟨rfl,rfl,rfl,rfl,rfl,rfl,rfl,rfl,rfl,rfl,rfl,rfl,trivial⟩
     exact trivial
    have s30:J 8 [false,true,true,true,true,false,false,false,false,false,false,false] (eT [false,true,true,true,true,false,false,false,false,false,false,false] (lE y z.1 l undef undef)++kM b2 y L.1 q1 l a1) [.obj y 128 (.agg (.pair (.at ap (a0,.map (some m))) (.eq z.1))),.sl z.1 23 .val (eV z.2 0 q2)]:=by
     subst hJ
     refine JD.step [0,5] (by kernel_rfl) rfl ?_
     refine eQ.cons rfl ?_ ?_
     ·
      refine aw rfl rfl ?_
      exact aU (s31) [0,1] ⟨rfl,rfl,rfl,rfl,rfl,rfl,rfl,rfl,rfl,rfl,rfl,rfl,trivial⟩
     refine eQ.cons rfl ?_ ?_
     ·
      refine aw rfl rfl ?_
      exact aU (s62) [0,1] ⟨rfl,rfl,rfl,rfl,rfl,rfl,rfl,rfl,rfl,rfl,rfl,rfl,trivial⟩
     exact trivial
    have s39:J 8 [true,true,true,false,false,true,false,false,false,false,false,false] (eT [true,true,true,false,false,true,false,false,false,false,false,false] (lE y z.1 l undef undef)++kM b2 y L.1 q1 l a1) [.obj y 128 (.agg (.pair (.at ap (a0,.map (some m))) (.eq z.1))),.sl z.1 23 .val (eV z.2 0 q2)]:=by
     subst hJ
     refine JD.step [3,6] (by kernel_rfl) rfl ?_
     refine eQ.cons rfl ?_ ?_
     ·
      refine aA rfl (ax rfl tc) ⟨rfl,trivial⟩ ?_
      exact aU (s47) [0,1] ⟨rfl,rfl,rfl,rfl,rfl,rfl,rfl,rfl,rfl,rfl,rfl,rfl,trivial⟩
     refine eQ.cons rfl ?_ ?_
     ·
      refine aD rfl rfl rfl (ar [.tmp 44] rfl rfl pE rfl cc) ⟨rfl,trivial⟩ fun v=>?_
      exact aU (s103 v) [1,2,0] ⟨rfl,rfl,rfl,rfl,rfl,rfl,rfl,rfl,rfl,rfl,rfl,rfl,trivial⟩
     exact trivial
    have s46:J 8 [false,true,true,true,false,true,false,false,false,false,false,false] (eT [false,true,true,true,false,true,false,false,false,false,false,false] (lE y z.1 l undef undef)++kM b2 y L.1 q1 l a1) [.obj y 128 (.agg (.pair (.at ap (a0,.map (some m))) (.eq z.1))),.sl z.1 23 .val (eV z.2 0 q2)]:=by
     subst hJ
     refine JD.step [0,4,6] (by kernel_rfl) rfl ?_
     refine eQ.cons rfl ?_ ?_
     ·
      refine aw rfl rfl ?_
      exact aU (s47) [0,1] ⟨rfl,rfl,rfl,rfl,rfl,rfl,rfl,rfl,rfl,rfl,rfl,rfl,trivial⟩
     refine eQ.cons rfl ?_ ?_
     ·
      refine bT rfl rfl rfl (an rfl nj mN rfl) ⟨rfl,trivial⟩ ?_
      exact aU (s62) [0,1] ⟨rfl,rfl,rfl,rfl,rfl,rfl,rfl,rfl,rfl,rfl,rfl,rfl,trivial⟩
     refine eQ.cons rfl ?_ ?_
     ·
      refine aD rfl rfl rfl (ar [.tmp 44] rfl rfl pE rfl cc) ⟨rfl,trivial⟩ fun v=>?_
      exact aU (s110 v) [1,2,0] ⟨rfl,rfl,rfl,rfl,rfl,rfl,rfl,rfl,rfl,rfl,rfl,rfl,trivial⟩
     exact trivial
    have s99:∀(v:Value),J 8 [true,true,false,false,false,true,true,false,false,false,false,false] (eT [true,true,false,false,false,true,true,false,false,false,false,false] (lE y z.1 l v undef)++kM b2 y L.1 q1 l a1) [.obj y 128 (.agg (.pair (.at ap (a0,.map (some m))) (.eq z.1))),.sl z.1 23 .val (eV z.2 0 q2),.sl v 3 (.int .i64) l2]:=fun v=>by
     subst hJ
     refine JD.step [2,7] (by kernel_rfl) rfl ?_
     refine eQ.cons rfl ?_ ?_
     ·
      refine aA rfl (aR rfl) ⟨rfl,trivial⟩ ?_
      exact aU (s103 v) [0,1,2] ⟨rfl,rfl,rfl,rfl,rfl,rfl,rfl,rfl,rfl,rfl,rfl,rfl,trivial⟩
     refine eQ.cons rfl ?_ ?_
     ·
      refine bq 2 rfl ?_
      refine fO fun hv=>?_
      refine aA rfl (bu (t:=.val) [(.tmp 45,.eq v)] [v] rfl rfl nn (.cons hv (.val hv) .nil) rfl rfl) ⟨rfl,trivial⟩ ?_
      exact aU (s227 v) [1,2,0] ⟨rfl,rfl,rfl,rfl,rfl,rfl,rfl,rfl,rfl,rfl,rfl,rfl,trivial⟩
     exact trivial
    have s102:∀(v:Value),J 8 [false,true,true,false,false,true,true,false,false,false,false,false] (eT [false,true,true,false,false,true,true,false,false,false,false,false] (lE y z.1 l v undef)++kM b2 y L.1 q1 l a1) [.obj y 128 (.agg (.pair (.at ap (a0,.map (some m))) (.eq z.1))),.sl z.1 23 .val (eV z.2 0 q2),.sl v 3 (.int .i64) l2]:=fun v=>by
     subst hJ
     refine JD.step [0,3,7] (by kernel_rfl) rfl ?_
     refine eQ.cons rfl ?_ ?_
     ·
      refine aw rfl rfl ?_
      exact aU (s103 v) [0,1,2] ⟨rfl,rfl,rfl,rfl,rfl,rfl,rfl,rfl,rfl,rfl,rfl,rfl,trivial⟩
     refine eQ.cons rfl ?_ ?_
     ·
      refine aA rfl (ax rfl tc) ⟨rfl,trivial⟩ ?_
      exact aU (s110 v) [0,1,2] ⟨rfl,rfl,rfl,rfl,rfl,rfl,rfl,rfl,rfl,rfl,rfl,rfl,trivial⟩
     refine eQ.cons rfl ?_ ?_
     ·
      refine bq 2 rfl ?_
      refine fO fun hv=>?_
      refine aA rfl (bu (t:=.val) [(.tmp 45,.eq v)] [v] rfl rfl nn (.cons hv (.val hv) .nil) rfl rfl) ⟨rfl,trivial⟩ ?_
      exact aU (s230 v) [1,2,0] ⟨rfl,rfl,rfl,rfl,rfl,rfl,rfl,rfl,rfl,rfl,rfl,rfl,trivial⟩
     exact trivial
    have s225:∀(v:Value),J 8 [true,false,false,false,false,true,true,true,false,false,false,false] (eT [true,false,false,false,false,true,true,true,false,false,false,false] (lE y z.1 l v undef)++kM b2 y L.1 q1 l a1) [.obj y 128 (.agg (.pair (.at ap (a0,.map (some m))) (.eq z.1))),.sl z.1 23 .val (eV z.2 0 q2),.sl v 3 (.int .i64) l2]:=fun v=>by
     subst hJ
     refine JD.step [1] (by kernel_rfl) rfl ?_
     refine eQ.cons rfl ?_ ?_
     ·
      refine aw rfl rfl ?_
      exact aU (s227 v) [0,1,2] ⟨rfl,rfl,rfl,rfl,rfl,rfl,rfl,rfl,rfl,rfl,rfl,rfl,trivial⟩
     exact trivial
    have s226:∀(v:Value),J 8 [false,true,false,false,false,true,true,true,false,false,false,false] (eT [false,true,false,false,false,true,true,true,false,false,false,false] (lE y z.1 l v undef)++kM b2 y L.1 q1 l a1) [.obj y 128 (.agg (.pair (.at ap (a0,.map (some m))) (.eq z.1))),.sl z.1 23 .val (eV z.2 0 q2),.sl v 3 (.int .i64) l2]:=fun v=>by
     subst hJ
     refine JD.step [0,2] (by kernel_rfl) rfl ?_
     refine eQ.cons rfl ?_ ?_
     ·
      refine aw rfl rfl ?_
      exact aU (s227 v) [0,1,2] ⟨rfl,rfl,rfl,rfl,rfl,rfl,rfl,rfl,rfl,rfl,rfl,rfl,trivial⟩
     refine eQ.cons rfl ?_ ?_
     ·
      refine aA rfl (aR rfl) ⟨rfl,trivial⟩ ?_
      exact aU (s230 v) [0,1,2] ⟨rfl,rfl,rfl,rfl,rfl,rfl,rfl,rfl,rfl,rfl,rfl,rfl,trivial⟩
     exact trivial
    have s7:J 9 [true,true,true,false,false,false,false,false,false,false,false,false] (eT [true,true,true,false,false,false,false,false,false,false,false,false] (lE y z.1 l undef undef)++kM b2 y L.1 q1 l a1) [.obj y 128 (.agg (.pair (.at ap (a0,.map (some m))) (.eq z.1))),.sl z.1 23 .val (eV z.2 0 q2)]:=by
     subst hJ
     refine JD.step [3,5] (by kernel_rfl) rfl ?_
     refine eQ.cons rfl ?_ ?_
     ·
      refine aA rfl (ax rfl tc) ⟨rfl,trivial⟩ ?_
      exact aU (s15) [0,1] ⟨rfl,rfl,rfl,rfl,rfl,rfl,rfl,rfl,rfl,rfl,rfl,trivial⟩
     refine eQ.cons rfl ?_ ?_
     ·
      refine aw rfl rfl ?_
      exact aU (s39) [0,1] ⟨rfl,rfl,rfl,rfl,rfl,rfl,rfl,rfl,rfl,rfl,rfl,trivial⟩
     exact trivial
    have s14:J 9 [false,true,true,true,false,false,false,false,false,false,false,false] (eT [false,true,true,true,false,false,false,false,false,false,false,false] (lE y z.1 l undef undef)++kM b2 y L.1 q1 l a1) [.obj y 128 (.agg (.pair (.at ap (a0,.map (some m))) (.eq z.1))),.sl z.1 23 .val (eV z.2 0 q2)]:=by
     subst hJ
     refine JD.step [0,4,5] (by kernel_rfl) rfl ?_
     refine eQ.cons rfl ?_ ?_
     ·
      refine aw rfl rfl ?_
      exact aU (s15) [0,1] ⟨rfl,rfl,rfl,rfl,rfl,rfl,rfl,rfl,rfl,rfl,rfl,trivial⟩
     refine eQ.cons rfl ?_ ?_
     ·
      refine bT rfl rfl rfl (an rfl nj mN rfl) ⟨rfl,trivial⟩ ?_
      exact aU (s30) [0,1] ⟨rfl,rfl,rfl,rfl,rfl,rfl,rfl,rfl,rfl,rfl,rfl,trivial⟩
     refine eQ.cons rfl ?_ ?_
     ·
      refine aw rfl rfl ?_
      exact aU (s46) [0,1] ⟨rfl,rfl,rfl,rfl,rfl,rfl,rfl,rfl,rfl,rfl,rfl,trivial⟩
     exact trivial
    have s35:J 9 [true,true,false,false,false,true,false,false,false,false,false,false] (eT [true,true,false,false,false,true,false,false,false,false,false,false] (lE y z.1 l undef undef)++kM b2 y L.1 q1 l a1) [.obj y 128 (.agg (.pair (.at ap (a0,.map (some m))) (.eq z.1))),.sl z.1 23 .val (eV z.2 0 q2)]:=by
     subst hJ
     refine JD.step [2,6] (by kernel_rfl) rfl ?_
     refine eQ.cons rfl ?_ ?_
     ·
      refine aA rfl (aR rfl) ⟨rfl,trivial⟩ ?_
      exact aU (s39) [0,1] ⟨rfl,rfl,rfl,rfl,rfl,rfl,rfl,rfl,rfl,rfl,rfl,trivial⟩
     refine eQ.cons rfl ?_ ?_
     ·
      refine aD rfl rfl rfl (ar [.tmp 44] rfl rfl pE rfl cc) ⟨rfl,trivial⟩ fun v=>?_
      exact aU (s99 v) [1,2,0] ⟨rfl,rfl,rfl,rfl,rfl,rfl,rfl,rfl,rfl,rfl,rfl,trivial⟩
     exact trivial
    have s38:J 9 [false,true,true,false,false,true,false,false,false,false,false,false] (eT [false,true,true,false,false,true,false,false,false,false,false,false] (lE y z.1 l undef undef)++kM b2 y L.1 q1 l a1) [.obj y 128 (.agg (.pair (.at ap (a0,.map (some m))) (.eq z.1))),.sl z.1 23 .val (eV z.2 0 q2)]:=by
     subst hJ
     refine JD.step [0,3,6] (by kernel_rfl) rfl ?_
     refine eQ.cons rfl ?_ ?_
     ·
      refine aw rfl rfl ?_
      exact aU (s39) [0,1] ⟨rfl,rfl,rfl,rfl,rfl,rfl,rfl,rfl,rfl,rfl,rfl,trivial⟩
     refine eQ.cons rfl ?_ ?_
     ·
      refine aA rfl (ax rfl tc) ⟨rfl,trivial⟩ ?_
      exact aU (s46) [0,1] ⟨rfl,rfl,rfl,rfl,rfl,rfl,rfl,rfl,rfl,rfl,rfl,trivial⟩
     refine eQ.cons rfl ?_ ?_
     ·
      refine aD rfl rfl rfl (ar [.tmp 44] rfl rfl pE rfl cc) ⟨rfl,trivial⟩ fun v=>?_
      exact aU (s102 v) [1,2,0] ⟨rfl,rfl,rfl,rfl,rfl,rfl,rfl,rfl,rfl,rfl,rfl,trivial⟩
     exact trivial
    have s97:∀(v:Value),J 9 [true,false,false,false,false,true,true,false,false,false,false,false] (eT [true,false,false,false,false,true,true,false,false,false,false,false] (lE y z.1 l v undef)++kM b2 y L.1 q1 l a1) [.obj y 128 (.agg (.pair (.at ap (a0,.map (some m))) (.eq z.1))),.sl z.1 23 .val (eV z.2 0 q2),.sl v 3 (.int .i64) l2]:=fun v=>by
     subst hJ
     refine JD.step [1,7] (by kernel_rfl) rfl ?_
     refine eQ.cons rfl ?_ ?_
     ·
      refine aw rfl rfl ?_
      exact aU (s99 v) [0,1,2] ⟨rfl,rfl,rfl,rfl,rfl,rfl,rfl,rfl,rfl,rfl,rfl,trivial⟩
     refine eQ.cons rfl ?_ ?_
     ·
      refine bq 2 rfl ?_
      refine fO fun hv=>?_
      refine aA rfl (bu (t:=.val) [(.tmp 45,.eq v)] [v] rfl rfl nn (.cons hv (.val hv) .nil) rfl rfl) ⟨rfl,trivial⟩ ?_
      exact aU (s225 v) [1,2,0] ⟨rfl,rfl,rfl,rfl,rfl,rfl,rfl,rfl,rfl,rfl,rfl,trivial⟩
     exact trivial
    have s98:∀(v:Value),J 9 [false,true,false,false,false,true,true,false,false,false,false,false] (eT [false,true,false,false,false,true,true,false,false,false,false,false] (lE y z.1 l v undef)++kM b2 y L.1 q1 l a1) [.obj y 128 (.agg (.pair (.at ap (a0,.map (some m))) (.eq z.1))),.sl z.1 23 .val (eV z.2 0 q2),.sl v 3 (.int .i64) l2]:=fun v=>by
     subst hJ
     refine JD.step [0,2,7] (by kernel_rfl) rfl ?_
     refine eQ.cons rfl ?_ ?_
     ·
      refine aw rfl rfl ?_
      exact aU (s99 v) [0,1,2] ⟨rfl,rfl,rfl,rfl,rfl,rfl,rfl,rfl,rfl,rfl,rfl,trivial⟩
     refine eQ.cons rfl ?_ ?_
     ·
      refine aA rfl (aR rfl) ⟨rfl,trivial⟩ ?_
      exact aU (s102 v) [0,1,2] ⟨rfl,rfl,rfl,rfl,rfl,rfl,rfl,rfl,rfl,rfl,rfl,trivial⟩
     refine eQ.cons rfl ?_ ?_
     ·
      refine bq 2 rfl ?_
      refine fO fun hv=>?_
      refine aA rfl (bu (t:=.val) [(.tmp 45,.eq v)] [v] rfl rfl nn (.cons hv (.val hv) .nil) rfl rfl) ⟨rfl,trivial⟩ ?_
      exact aU (s226 v) [1,2,0] ⟨rfl,rfl,rfl,rfl,rfl,rfl,rfl,rfl,rfl,rfl,rfl,trivial⟩
     exact trivial
    have s224:∀(v:Value),J 9 [false,false,false,false,false,true,true,true,false,false,false,false] (eT [false,false,false,false,false,true,true,true,false,false,false,false] (lE y z.1 l v undef)++kM b2 y L.1 q1 l a1) [.obj y 128 (.agg (.pair (.at ap (a0,.map (some m))) (.eq z.1))),.sl z.1 23 .val (eV z.2 0 q2),.sl v 3 (.int .i64) l2]:=fun v=>by
     subst hJ
     refine JD.step [0,1] (by kernel_rfl) rfl ?_
     refine eQ.cons rfl ?_ ?_
     ·
      refine aw rfl rfl ?_
      exact aU (s225 v) [0,1,2] ⟨rfl,rfl,rfl,rfl,rfl,rfl,rfl,rfl,rfl,rfl,rfl,trivial⟩
     refine eQ.cons rfl ?_ ?_
     ·
      refine aw rfl rfl ?_
      exact aU (s226 v) [0,1,2] ⟨rfl,rfl,rfl,rfl,rfl,rfl,rfl,rfl,rfl,rfl,rfl,trivial⟩
     exact trivial
    have s3:J 10 [true,true,false,false,false,false,false,false,false,false,false,false] (eT [true,true,false,false,false,false,false,false,false,false,false,false] (lE y z.1 l undef undef)++kM b2 y L.1 q1 l a1) [.obj y 128 (.agg (.pair (.at ap (a0,.map (some m))) (.eq z.1))),.sl z.1 23 .val (eV z.2 0 q2)]:=by
     subst hJ
     refine JD.step [2,5] (by kernel_rfl) rfl ?_
     refine eQ.cons rfl ?_ ?_
     ·
      refine aA rfl (aR rfl) ⟨rfl,trivial⟩ ?_
      exact aU (s7) [0,1] ⟨rfl,rfl,rfl,rfl,rfl,rfl,rfl,rfl,rfl,rfl,trivial⟩
     refine eQ.cons rfl ?_ ?_
     ·
      refine aw rfl rfl ?_
      exact aU (s35) [0,1] ⟨rfl,rfl,rfl,rfl,rfl,rfl,rfl,rfl,rfl,rfl,trivial⟩
     exact trivial
    have s6:J 10 [false,true,true,false,false,false,false,false,false,false,false,false] (eT [false,true,true,false,false,false,false,false,false,false,false,false] (lE y z.1 l undef undef)++kM b2 y L.1 q1 l a1) [.obj y 128 (.agg (.pair (.at ap (a0,.map (some m))) (.eq z.1))),.sl z.1 23 .val (eV z.2 0 q2)]:=by
     subst hJ
     refine JD.step [0,3,5] (by kernel_rfl) rfl ?_
     refine eQ.cons rfl ?_ ?_
     ·
      refine aw rfl rfl ?_
      exact aU (s7) [0,1] ⟨rfl,rfl,rfl,rfl,rfl,rfl,rfl,rfl,rfl,rfl,trivial⟩
     refine eQ.cons rfl ?_ ?_
     ·
      refine aA rfl (ax rfl tc) ⟨rfl,trivial⟩ ?_
      exact aU (s14) [0,1] ⟨rfl,rfl,rfl,rfl,rfl,rfl,rfl,rfl,rfl,rfl,trivial⟩
     refine eQ.cons rfl ?_ ?_
     ·
      refine aw rfl rfl ?_
      exact aU (s38) [0,1] ⟨rfl,rfl,rfl,rfl,rfl,rfl,rfl,rfl,rfl,rfl,trivial⟩
     exact trivial
    have s33:J 10 [true,false,false,false,false,true,false,false,false,false,false,false] (eT [true,false,false,false,false,true,false,false,false,false,false,false] (lE y z.1 l undef undef)++kM b2 y L.1 q1 l a1) [.obj y 128 (.agg (.pair (.at ap (a0,.map (some m))) (.eq z.1))),.sl z.1 23 .val (eV z.2 0 q2)]:=by
     subst hJ
     refine JD.step [1,6] (by kernel_rfl) rfl ?_
     refine eQ.cons rfl ?_ ?_
     ·
      refine aw rfl rfl ?_
      exact aU (s35) [0,1] ⟨rfl,rfl,rfl,rfl,rfl,rfl,rfl,rfl,rfl,rfl,trivial⟩
     refine eQ.cons rfl ?_ ?_
     ·
      refine aD rfl rfl rfl (ar [.tmp 44] rfl rfl pE rfl cc) ⟨rfl,trivial⟩ fun v=>?_
      exact aU (s97 v) [1,2,0] ⟨rfl,rfl,rfl,rfl,rfl,rfl,rfl,rfl,rfl,rfl,trivial⟩
     exact trivial
    have s34:J 10 [false,true,false,false,false,true,false,false,false,false,false,false] (eT [false,true,false,false,false,true,false,false,false,false,false,false] (lE y z.1 l undef undef)++kM b2 y L.1 q1 l a1) [.obj y 128 (.agg (.pair (.at ap (a0,.map (some m))) (.eq z.1))),.sl z.1 23 .val (eV z.2 0 q2)]:=by
     subst hJ
     refine JD.step [0,2,6] (by kernel_rfl) rfl ?_
     refine eQ.cons rfl ?_ ?_
     ·
      refine aw rfl rfl ?_
      exact aU (s35) [0,1] ⟨rfl,rfl,rfl,rfl,rfl,rfl,rfl,rfl,rfl,rfl,trivial⟩
     refine eQ.cons rfl ?_ ?_
     ·
      refine aA rfl (aR rfl) ⟨rfl,trivial⟩ ?_
      exact aU (s38) [0,1] ⟨rfl,rfl,rfl,rfl,rfl,rfl,rfl,rfl,rfl,rfl,trivial⟩
     refine eQ.cons rfl ?_ ?_
     ·
      refine aD rfl rfl rfl (ar [.tmp 44] rfl rfl pE rfl cc) ⟨rfl,trivial⟩ fun v=>?_
      exact aU (s98 v) [1,2,0] ⟨rfl,rfl,rfl,rfl,rfl,rfl,rfl,rfl,rfl,rfl,trivial⟩
     exact trivial
    have s96:∀(v:Value),J 10 [false,false,false,false,false,true,true,false,false,false,false,false] (eT [false,false,false,false,false,true,true,false,false,false,false,false] (lE y z.1 l v undef)++kM b2 y L.1 q1 l a1) [.obj y 128 (.agg (.pair (.at ap (a0,.map (some m))) (.eq z.1))),.sl z.1 23 .val (eV z.2 0 q2),.sl v 3 (.int .i64) l2]:=fun v=>by
     subst hJ
     refine JD.step [0,1,7] (by kernel_rfl) rfl ?_
     refine eQ.cons rfl ?_ ?_
     ·
      refine aw rfl rfl ?_
      exact aU (s97 v) [0,1,2] ⟨rfl,rfl,rfl,rfl,rfl,rfl,rfl,rfl,rfl,rfl,trivial⟩
     refine eQ.cons rfl ?_ ?_
     ·
      refine aw rfl rfl ?_
      exact aU (s98 v) [0,1,2] ⟨rfl,rfl,rfl,rfl,rfl,rfl,rfl,rfl,rfl,rfl,trivial⟩
     refine eQ.cons rfl ?_ ?_
     ·
      refine bq 2 rfl ?_
      refine fO fun hv=>?_
      refine aA rfl (bu (t:=.val) [(.tmp 45,.eq v)] [v] rfl rfl nn (.cons hv (.val hv) .nil) rfl rfl) ⟨rfl,trivial⟩ ?_
      exact aU (s224 v) [1,2,0] ⟨rfl,rfl,rfl,rfl,rfl,rfl,rfl,rfl,rfl,rfl,trivial⟩
     exact trivial
    have s1:J 11 [true,false,false,false,false,false,false,false,false,false,false,false] (eT [true,false,false,false,false,false,false,false,false,false,false,false] (lE y z.1 l undef undef)++kM b2 y L.1 q1 l a1) [.obj y 128 (.agg (.pair (.at ap (a0,.map (some m))) (.eq z.1))),.sl z.1 23 .val (eV z.2 0 q2)]:=by
     subst hJ
     refine JD.step [1,5] (by kernel_rfl) rfl ?_
     refine eQ.cons rfl ?_ ?_
     ·
      refine aw rfl rfl ?_
      exact aU (s3) [0,1] ⟨rfl,rfl,rfl,rfl,rfl,rfl,rfl,rfl,rfl,trivial⟩
     refine eQ.cons rfl ?_ ?_
     ·
      refine aw rfl rfl ?_
      exact aU (s33) [0,1] ⟨rfl,rfl,rfl,rfl,rfl,rfl,rfl,rfl,rfl,trivial⟩
     exact trivial
    have s2:J 11 [false,true,false,false,false,false,false,false,false,false,false,false] (eT [false,true,false,false,false,false,false,false,false,false,false,false] (lE y z.1 l undef undef)++kM b2 y L.1 q1 l a1) [.obj y 128 (.agg (.pair (.at ap (a0,.map (some m))) (.eq z.1))),.sl z.1 23 .val (eV z.2 0 q2)]:=by
     subst hJ
     refine JD.step [0,2,5] (by kernel_rfl) rfl ?_
     refine eQ.cons rfl ?_ ?_
     ·
      refine aw rfl rfl ?_
      exact aU (s3) [0,1] ⟨rfl,rfl,rfl,rfl,rfl,rfl,rfl,rfl,rfl,trivial⟩
     refine eQ.cons rfl ?_ ?_
     ·
      refine aA rfl (aR rfl) ⟨rfl,trivial⟩ ?_
      exact aU (s6) [0,1] ⟨rfl,rfl,rfl,rfl,rfl,rfl,rfl,rfl,rfl,trivial⟩
     refine eQ.cons rfl ?_ ?_
     ·
      refine aw rfl rfl ?_
      exact aU (s34) [0,1] ⟨rfl,rfl,rfl,rfl,rfl,rfl,rfl,rfl,rfl,trivial⟩
     exact trivial
    have s32:J 11 [false,false,false,false,false,true,false,false,false,false,false,false] (eT [false,false,false,false,false,true,false,false,false,false,false,false] (lE y z.1 l undef undef)++kM b2 y L.1 q1 l a1) [.obj y 128 (.agg (.pair (.at ap (a0,.map (some m))) (.eq z.1))),.sl z.1 23 .val (eV z.2 0 q2)]:=by
     subst hJ
     refine JD.step [0,1,6] (by kernel_rfl) rfl ?_
     refine eQ.cons rfl ?_ ?_
     ·
      refine aw rfl rfl ?_
      exact aU (s33) [0,1] ⟨rfl,rfl,rfl,rfl,rfl,rfl,rfl,rfl,rfl,trivial⟩
     refine eQ.cons rfl ?_ ?_
     ·
      refine aw rfl rfl ?_
      exact aU (s34) [0,1] ⟨rfl,rfl,rfl,rfl,rfl,rfl,rfl,rfl,rfl,trivial⟩
     refine eQ.cons rfl ?_ ?_
     ·
      refine aD rfl rfl rfl (ar [.tmp 44] rfl rfl pE rfl cc) ⟨rfl,trivial⟩ fun v=>?_
      exact aU (s96 v) [1,2,0] ⟨rfl,rfl,rfl,rfl,rfl,rfl,rfl,rfl,rfl,trivial⟩
     exact trivial
    have s0:J 12 [false,false,false,false,false,false,false,false,false,false,false,false] (eT [false,false,false,false,false,false,false,false,false,false,false,false] (lE y z.1 l undef undef)++kM b2 y L.1 q1 l a1) [.obj y 128 (.agg (.pair (.at ap (a0,.map (some m))) (.eq z.1))),.sl z.1 23 .val (eV z.2 0 q2)]:=by
     subst hJ
     refine JD.step [0,1,5] (by kernel_rfl) rfl ?_
     refine eQ.cons rfl ?_ ?_
     ·
      refine aw rfl rfl ?_
      exact aU (s1) [0,1] ⟨rfl,rfl,rfl,rfl,rfl,rfl,rfl,rfl,trivial⟩
     refine eQ.cons rfl ?_ ?_
     ·
      refine aw rfl rfl ?_
      exact aU (s2) [0,1] ⟨rfl,rfl,rfl,rfl,rfl,rfl,rfl,rfl,trivial⟩
     refine eQ.cons rfl ?_ ?_
     ·
      refine aw rfl rfl ?_
      exact aU (s32) [0,1] ⟨rfl,rfl,rfl,rfl,rfl,rfl,rfl,rfl,trivial⟩
     exact trivial
    exact s0
   ·
    exact fun a w st=>⟨rfl,p,st⟩
  ·
   subst hB
   refine aG ?_
   refine ae ?_
   refine bS (fi (Δ':=.sl p.1 3 (.int .i64) l2:: .sl p.2 23 .val (eV z.2 0 q2++[p.1])::([.obj y 128 (.agg (.pair (.at ap (a0,.map (some m))) (.eq p.2))),.inv m (bi k a0),.obj b2 25 (.rep aI a0),.inv 0 eF]++kz z.2 0 q2)) ?_) ?_
   ·
    exact List.Perm.trans (List.Perm.swap _ _ _) (List.Perm.trans (List.Perm.cons _ (List.Perm.swap _ _ _)) (List.Perm.swap _ _ _))
   refine bS (D6 (pre:=[.obj y 128 (.agg (.pair (.at ap (a0,.map (some m))) (.eq p.2))),.inv m (bi k a0),.obj b2 25 (.rep aI a0),.inv 0 eF])) ?_
   show JC _ _ _ _ _
   refine aa ?_
   obtain⟨w3,ew,h⟩:=ab h
   refine aA rfl (bh rfl ew) ⟨rfl,rfl,trivial⟩ ?_
   refine aw rfl rfl ?_
   refine ak ?_
   refine ae ?_
   exact gP ((p.2,ny z.2 q2.length p.1),(w3,q2++[l2])) h (aV [.obj y 128 (.agg (.pair (.at ap (a0,.map (some m))) (.eq p.2))),.inv m (bi k a0),.obj b2 25 (.rep aI a0),.inv 0 eF] (eM 23 (p.2,ny z.2 q2.length p.1) (q2++[l2])) [0,1,2,3] ⟨rfl,rfl,rfl,rfl,rfl,rfl,trivial⟩ rfl)
 replace h:=bD (lu hb) h
 refine dD ?_
 refine aN ?_
 refine aN ?_
 refine bU ?_
 refine ae ?_
 show JC _ _ _ _ _
 replace h:((iG k a0 k (0,[],q.2)).bind fun p=>(kJ k a0 p.1 p.2).bind fun b=>if(!b.2.2.1 || decide (L.1≤b.2.1))=true then some (0,0,0,11) else some (b.1.1,b.1.2,b.2.1,0)).bind some=some r:=h
 rw [Option.bind_assoc] at h
 generalize q.2=ls at h⊢
 refine ah ?_
 refine aa ?_
 refine dA rfl ?_
 refine co (SE.nil 131 eH) ?_
 refine ak ?_
 refine ae ?_
 show JC _ _ _ _ _
 refine fP (aV (Γ':=[(2,.eq (bP b2)),(8,.eq (.int .i64 L.1)),(10,.eq (bP y)),(13,.eq (.slice none 0 0))]) (pre':=[.inv m (bi k a0),.obj b2 25 (.rep aI a0),.inv 0 eF,.sl (.slice none 0 0) 131 eH [],.obj y 128 (.agg (.pair (.at ap (a0,.map (some m))) (.eq z.1)))]) [.sl (.slice none 0 0) 131 eH [],.obj y 128 (.agg (.pair (.at ap (a0,.map (some m))) (.eq z.1))),.inv m (bi k a0),.obj b2 25 (.rep aI a0),.inv 0 eF] (eM 23 z ls) [2,3,4,0,1] ⟨rfl,rfl,rfl,rfl,trivial⟩ rfl) ?_
 refine ah ?_
 refine ah ?_
 refine aa ?_
 refine aA rfl (ax rfl Ky) ⟨rfl,trivial⟩ ?_
 refine bq 1 rfl ?_
 refine bT rfl rfl rfl (an rfl J4 mN rfl) ⟨rfl,trivial⟩ ?_
 refine aA rfl (jg rfl rfl zM) ⟨rfl,trivial⟩ ?_
 refine eB rfl ?_
 refine ak ?_
 refine ae ?_
 show JC _ _ _ _ _
 refine aj ?_
 refine aH (Z:=Value) (α:=Int×List (Int×Int)×List (List Int)) (fun c q=>[(2,.eq (bP b2)),(8,.eq (.int .i64 L.1)),(10,.eq (bP y)),(13,.eq c),(53,.eq (.int .i64 (a0.2.1.length:Int))),(54,.eq (.int .i64 q.1))]) (fun c q=>[.obj b2 25 (.rep aI a0),.inv m (bi k a0),.inv 0 eF,.sl c 131 eH q.2.1,.obj y 128 (.agg (.pair (.at ap (a0,.map (some m))) (.eq z.1)))]++eM 23 z q.2.2) (iG k a0) k (.slice none 0 0) (0,[],ls) (fun _=>rfl) h (aV [.obj b2 25 (.rep aI a0),.inv m (bi k a0),.inv 0 eF,.sl (.slice none 0 0) 131 eH [],.obj y 128 (.agg (.pair (.at ap (a0,.map (some m))) (.eq z.1)))] (eM 23 z ls) [0,1,2,3,4] ⟨rfl,rfl,rfl,rfl,rfl,rfl,trivial⟩ rfl) (fun n c q h=>?_)
 obtain⟨q1,qp,ql⟩:=q
 unfold iG at h
 refine ah ?_
 refine aa ?_
 refine aA rfl (bz rfl) ⟨rfl,rfl,trivial⟩ ?_
 refine ak ?_
 refine ae ?_
 show JC _ _ _ _ _
 refine ah ?_
 refine bB rfl (fun hb=>?_) (fun hb=>?_)
 ·
  replace h:=cm (l5 hb) h
  obtain⟨w,ew,h⟩:=ab h
  rw [Option.bind_assoc] at h
  refine aO ?_
  refine ae ?_
  show JC _ _ _ _ _
  refine ah ?_
  refine aj ?_
  refine ah ?_
  refine aa ?_
  refine aw rfl rfl ?_
  refine dc rfl rfl ?_
  refine ak ?_
  refine ae ?_
  show JC _ _ _ _ _
  refine ah ?_
  refine aa ?_
  refine aw rfl rfl ?_
  refine aA rfl (bh rfl ew) ⟨rfl,rfl,trivial⟩ ?_
  refine dc rfl rfl ?_
  refine ak ?_
  refine ae ?_
  show JC _ _ _ _ _
  refine aj ?_
  refine aH (Z:=Value) (α:=Int×List (Int×Int)×List (List Int)) (fun c q=>[(2,.eq (bP b2)),(8,.eq (.int .i64 L.1)),(10,.eq (bP y)),(13,.eq c),(14,.eq (.int .i64 q1)),(15,.eq (.int .i64 q.1)),(53,.eq (.int .i64 (a0.2.1.length:Int))),(54,.eq (.int .i64 q1))]) (fun c q=>[.obj b2 25 (.rep aI a0),.inv m (bi k a0),.inv 0 eF,.sl c 131 eH q.2.1,.obj y 128 (.agg (.pair (.at ap (a0,.map (some m))) (.eq z.1)))]++eM 23 z q.2.2) (jO k a0 q1) k c (w,qp,ql) (fun _=>rfl) h (aV [.obj b2 25 (.rep aI a0),.inv m (bi k a0),.inv 0 eF,.sl c 131 eH qp,.obj y 128 (.agg (.pair (.at ap (a0,.map (some m))) (.eq z.1)))] (eM 23 z ql) [0,1,2,3,4] ⟨rfl,rfl,rfl,rfl,rfl,rfl,rfl,rfl,trivial⟩ rfl) (fun n3 c q h=>?_)
  obtain⟨j,rp,rl⟩:=q
  unfold jO at h
  refine ah ?_
  refine ah ?_
  refine aa ?_
  refine aw rfl rfl ?_
  refine aA rfl (ax rfl Ky) ⟨rfl,trivial⟩ ?_
  refine bT rfl rfl rfl (an rfl J4 mN rfl) ⟨rfl,trivial⟩ ?_
  refine aA rfl (jg rfl rfl zM) ⟨rfl,trivial⟩ ?_
  refine aA rfl (bz rfl) ⟨rfl,rfl,trivial⟩ ?_
  refine ak ?_
  refine ae ?_
  show JC _ _ _ _ _
  refine bB rfl (fun hb=>?_) (fun hb=>?_)
  ·
   replace h:=cm (l5 hb) h
   obtain⟨r1,Q,h⟩:=ab h
   have cv:=rL k a0 (q1,j) rl r1 y m z Q
   refine aO ?_
   refine ae ?_
   show JC _ _ _ _ _
   refine ah ?_
   refine aj ?_
   refine ah ?_
   refine aa ?_
   refine aw rfl rfl ?_
   refine aw rfl rfl ?_
   refine aA rfl (dr [(0,.tmp 66,_),(1,.tmp 67,_)] rfl K9 rG Jw (iS ⟨rfl,rfl,trivial⟩) rfl) ⟨rfl,rfl,trivial⟩ ?_
   refine aD rfl rfl rfl (bF rfl rG uE) trivial fun e=>?_
   refine a8 rfl rfl (aW rfl f5 trivial rfl rfl) ⟨rfl,rfl,trivial⟩ ?_
   refine co (pg (a':=.rep eH (q1,j)) PN) ?_
   refine ak ?_
   refine ae ?_
   show JC _ _ _ _ _
   refine ah ?_
   refine aa ?_
   refine aw rfl rfl ?_
   refine bT rfl rfl rfl (an rfl f5 (xH) rfl) ⟨rfl,trivial⟩ ?_
   refine co (fi (Δ':=([.obj y 128 (.agg (.pair (.at ap (a0,.map (some m))) (.eq z.1)))]++eM 23 z rl)++[.obj e 131 (.rep eH (q1,j)),.obj b2 25 (.rep aI a0),.inv m (bi k a0),.inv 0 eF,.sl c 131 eH rp]) (List.perm_append_comm (l₁:=([.obj e 131 (.rep eH (q1,j)),.obj b2 25 (.rep aI a0),.inv m (bi k a0),.inv 0 eF,.sl c 131 eH rp]:List D)))) ?_
   refine bH (Δ:=_++_) (F:=[_,_,_,_,_]) (fun _ _ _=>au rfl _) rfl rfl (ar [.tmp 69,.tmp 70] rfl rfl OH rfl cv) ⟨rfl,rfl,trivial⟩ fun _=>?_
   refine co (fi (Δ':=[.obj e 131 (.rep eH (q1,j)),.obj b2 25 (.rep aI a0),.inv m (bi k a0),.inv 0 eF,.sl c 131 eH rp]++([.obj y 128 (.agg (.pair (.at ap (a0,.map (some m))) (.eq z.1)))]++eM 23 z r1.2)) List.perm_append_comm) ?_
   refine ak ?_
   refine ae ?_
   show JC _ _ _ _ _
   refine bB rfl (fun hb=>?_) (fun hb=>?_)
   ·
    replace h:=cm (zS hb) h
    have hk:bV (rp.length+1):=by
     apply Classical.byContradiction
     intro hn
     rw [if_neg hn] at h
     cases h
    replace h:=cm hk h
    refine aa ?_
    refine aw rfl rfl ?_
    refine bT rfl rfl rfl (an rfl f5 (xH) rfl) ⟨rfl,trivial⟩ ?_
    refine aA rfl (bu (t:=eH) [(.tmp 73,_)] [(q1,j)] rfl rfl EP (.cons rfl .rep .nil) rfl rfl) ⟨rfl,trivial⟩ ?_
    refine bq 4 rfl ?_
    refine dS rfl rfl rfl (ct rfl rfl EP (by simpa using hk)) ⟨rfl,rfl,trivial⟩ fun v'=>?_
    refine dc rfl rfl ?_
    refine ak ?_
    refine aG ?_
    refine ae ?_
    show JC _ _ _ _ _
    refine aa ?_
    refine aw rfl rfl ?_
    obtain⟨w2,ew2,h⟩:=ab h
    refine aA rfl (bh rfl ew2) ⟨rfl,rfl,trivial⟩ ?_
    refine dc rfl rfl ?_
    refine ak ?_
    refine ae ?_
    exact gP (v',(w2,rp++[(q1,j)],r1.2)) h (aV [.sl v' 131 eH (rp++[(q1,j)]),.obj e 131 (.rep eH (q1,j)),.obj b2 25 (.rep aI a0),.inv m (bi k a0),.inv 0 eF,.obj y 128 (.agg (.pair (.at ap (a0,.map (some m))) (.eq z.1)))] (eM 23 z r1.2) [2,3,4,0,5] ⟨rfl,rfl,rfl,rfl,rfl,rfl,rfl,rfl,trivial⟩ rfl)
   ·
    replace h:=bD (zT hb) h
    refine aO ?_
    refine aG ?_
    refine ae ?_
    show JC _ _ _ _ _
    refine aa ?_
    refine aw rfl rfl ?_
    obtain⟨w2,ew2,h⟩:=ab h
    refine aA rfl (bh rfl ew2) ⟨rfl,rfl,trivial⟩ ?_
    refine dc rfl rfl ?_
    refine ak ?_
    refine ae ?_
    exact gP (c,(w2,rp,r1.2)) h (aV [.obj e 131 (.rep eH (q1,j)),.obj b2 25 (.rep aI a0),.inv m (bi k a0),.inv 0 eF,.sl c 131 eH rp,.obj y 128 (.agg (.pair (.at ap (a0,.map (some m))) (.eq z.1)))] (eM 23 z r1.2) [1,2,3,4,5] ⟨rfl,rfl,rfl,rfl,rfl,rfl,rfl,rfl,trivial⟩ rfl)
  replace h:=bD (lu hb) h
  refine dD ?_
  refine aN ?_
  refine aN ?_
  refine bU ?_
  refine aG ?_
  refine ae ?_
  show JC _ _ _ _ _
  replace h:(iG k a0 n (w,rp,rl)).bind _=some r:=h
  refine aa ?_
  refine aA rfl (bh rfl ew) ⟨rfl,rfl,trivial⟩ ?_
  refine aw rfl rfl ?_
  refine ak ?_
  refine ae ?_
  exact gP (c,(w,rp,rl)) h (aV [.obj b2 25 (.rep aI a0),.inv m (bi k a0),.inv 0 eF,.sl c 131 eH rp,.obj y 128 (.agg (.pair (.at ap (a0,.map (some m))) (.eq z.1)))] (eM 23 z rl) [0,1,2,3,4] ⟨rfl,rfl,rfl,rfl,rfl,rfl,trivial⟩ rfl)
 replace h:=bD (lu hb) h
 refine dD ?_
 refine aN ?_
 refine aN ?_
 refine bU ?_
 refine ae ?_
 show JC _ _ _ _ _
 replace h:((kJ k a0 qp ql).bind fun b=>if(!b.2.2.1 || decide (L.1≤b.2.1))=true then some (0,0,0,11) else some (b.1.1,b.1.2,b.2.1,0)).bind some=some r:=h
 obtain⟨b,eb,h⟩:=ab h
 have cx:=uP k a0 qp ql b y m z eb
 refine ah ?_
 refine aa ?_
 refine aw rfl rfl ?_
 refine aA rfl (sa [.tmp 78] [] [bP y] [] rfl rfl rfl) ⟨rfl,trivial⟩ ?_
 refine bq 3 rfl ?_
 refine co (fM [13] ⟨rfl,trivial⟩) ?_
 refine aw rfl rfl ?_
 refine co (aV (Γ':=[(8,.eq (.int .i64 L.1)),(79,.eq (.func (.func 100) #[bP y] #[])),(80,Rs eH qp)]) (pre':=[.inv 0 eF,.obj b2 25 (.rep aI a0),.inv m (bi k a0),.obj y 128 (.agg (.pair (.at ap (a0,.map (some m))) (.eq z.1)))]) [.obj b2 25 (.rep aI a0),.inv m (bi k a0),.inv 0 eF,.obj y 128 (.agg (.pair (.at ap (a0,.map (some m))) (.eq z.1)))] (eM 23 z ql) [2,0,1,3] ⟨rfl,rfl,rfl,trivial⟩ rfl) ?_
 refine co (fi (Δ':=([.inv m (bi k a0),.obj y 128 (.agg (.pair (.at ap (a0,.map (some m))) (.eq z.1)))]++eM 23 z ql)++[.inv 0 eF,.obj b2 25 (.rep aI a0)]) (List.perm_append_comm (l₁:=([.inv 0 eF,.obj b2 25 (.rep aI a0)]:List D)))) ?_
 refine bH (Δ:=_++_) (F:=[_,_]) (fun _ _ _=>au rfl _) rfl rfl (dN [.tmp 79,.tmp 80] rfl rfl OG rfl cx) ⟨rfl,rfl,trivial⟩ fun _=>?_
 refine co (fi (Δ':=[.inv 0 eF,.obj b2 25 (.rep aI a0)]++([.inv m (bi k a0),.obj y 128 (.agg (.pair (.at ap (a0,.map (some m))) (.eq z.1)))]++eM 23 z b.2.2.2)) List.perm_append_comm) ?_
 refine aw rfl rfl ?_
 refine aA rfl (gq rfl rfl) ⟨rfl,trivial⟩ ?_
 refine aA rfl (gq rfl rfl) ⟨rfl,trivial⟩ ?_
 refine aA rfl (gq rfl rfl) ⟨rfl,trivial⟩ ?_
 refine aD rfl rfl rfl (bF rfl rG uE) trivial fun s=>?_
 refine a8 rfl rfl (aW rfl f5 rfl rfl rfl) ⟨rfl,rfl,trivial⟩ ?_
 refine dc rfl rfl ?_
 refine dc rfl rfl ?_
 refine ak ?_
 refine ae ?_
 show JC _ _ _ _ _
 obtain⟨bx,bn,bo,bl⟩:=b
 cases bo with
 |false=>
  replace h:some (0,0,0,11)=some r:=by simpa using h
  obtain rfl:=Option.some.inj h
  refine ah ?_
  refine ah ?_
  refine aa ?_
  refine aw rfl rfl ?_
  refine aA rfl (fW rfl) ⟨rfl,trivial⟩ ?_
  refine aw rfl rfl ?_
  refine xz rfl rfl rfl rfl rfl rfl rfl ?_
  refine xz rfl rfl rfl rfl rfl rfl rfl ?_
  refine xz rfl rfl rfl rfl rfl rfl rfl ?_
  refine aA rfl (qO rfl) ⟨rfl,rfl,trivial⟩ ?_
  refine ak ?_
  refine ae ?_
  show JC _ _ _ _ _
  refine bB rfl (fun hb=>?_) (fun hb=>(by cases hb))
  refine ah ?_
  refine aa ?_
  refine dA rfl ?_
  refine dA rfl ?_
  refine dA rfl ?_
  refine dA rfl ?_
  refine ak ?_
  refine ae ?_
  show JC _ _ _ _ _
  refine aB ?_
  refine aX ?_
  refine bO 1 rfl ?_
  exact aJ () [_,_,_,_] 1 ⟨rfl,rfl,rfl,rfl,trivial⟩ rfl
 |true=>
  refine ah ?_
  refine ah ?_
  refine aa ?_
  refine aw rfl rfl ?_
  refine aA rfl (fW rfl) ⟨rfl,trivial⟩ ?_
  refine aw rfl rfl ?_
  refine l9 rfl rfl rfl rfl rfl rfl (aZ rfl) ⟨rfl,trivial⟩ ?_
  refine l9 rfl rfl rfl rfl rfl rfl (aZ rfl) ⟨rfl,trivial⟩ ?_
  refine l9 rfl rfl rfl rfl rfl rfl (pA rfl) ⟨rfl,rfl,trivial⟩ ?_
  refine aA rfl (qP rfl) ⟨rfl,rfl,trivial⟩ ?_
  refine ak ?_
  refine ae ?_
  show JC _ _ _ _ _
  refine bB rfl (fun hb=>?_) (fun hb=>?_)
  ·
   have hd:L.1≤bn:=of_decide_eq_true hb
   replace h:some (0,0,0,11)=some r:=by simpa [hd] using h
   obtain rfl:=Option.some.inj h
   refine ah ?_
   refine aa ?_
   refine dA rfl ?_
   refine dA rfl ?_
   refine dA rfl ?_
   refine dA rfl ?_
   refine ak ?_
   refine ae ?_
   show JC _ _ _ _ _
   refine aB ?_
   refine aX ?_
   refine bO 1 rfl ?_
   exact aJ () [_,_,_,_] 1 ⟨rfl,rfl,rfl,rfl,trivial⟩ rfl
  ·
   have hd:¬L.1≤bn:=of_decide_eq_false hb
   replace h:some (bx.1,bx.2,bn,0)=some r:=by simpa [hd] using h
   refine aO ?_
   refine ae ?_
   obtain rfl:=Option.some.inj h
   show JC _ _ _ _ _
   refine ah ?_
   refine uL (Δ:=[.obj s 131 (.rep eH bx)]) (F:=[.inv 0 eF,.obj b2 25 (.rep aI a0),.inv m (bi k a0),.obj y 128 (.agg (.pair (.at ap (a0,.map (some m))) (.eq z.1)))]++eM 23 z bl) (Z:=Unit) (fun _=>[(4,.eq (.int .i64 bx.1)),(5,.eq (.int .i64 bx.2)),(6,.eq (.int .i64 bn)),(7,.eq (.int .i64 0))]) (fun _=>[.obj s 131 (.rep eH bx)]) (fun S w=>?_) (fun _=>?_)
   ·
    refine fP (SE.sub (Γ':=[(17,.eq (bP s)),(18,.eq (.int .i64 bn))]) ⟨rfl,rfl,trivial⟩) ?_
    refine mL ?_
    refine be rfl rfl rfl (ax rfl LI) ⟨rfl,trivial⟩ ?_
    refine il 0 rfl rfl rfl rfl (an rfl s5 mN rfl) ⟨rfl,trivial⟩ ?_
    refine be rfl rfl rfl (ax rfl LH) ⟨rfl,trivial⟩ ?_
    refine il 0 rfl rfl rfl rfl (an rfl s5 mN rfl) ⟨rfl,trivial⟩ ?_
    refine be rfl rfl rfl (aZ rfl) ⟨rfl,trivial⟩ ?_
    refine sK 5 [true,true,false,false,false] [4,5,6,7] [0] [.obj s 131 (.rep eH bx)] rfl (by kernel_rfl) (by kernel_rfl) (by kernel_rfl) pY (fun vs hv hB=>?_)
    obtain⟨u0,mc,rfl,O⟩:=av hv
    obtain⟨u1,ac,rfl,M⟩:=av O
    obtain⟨u2,Y,rfl,E⟩:=av M
    obtain⟨u3,X,rfl,x⟩:=av E
    obtain⟨u4,U,rfl,u⟩:=av x
    obtain rfl:=oU u
    refine⟨[0],[],by kernel_rfl,by decide,?_⟩
    refine sH rfl rfl rfl rfl (jP rfl) ⟨rfl,trivial⟩ (by kernel_rfl) ?_
    refine sH rfl rfl rfl rfl (jP rfl) ⟨rfl,trivial⟩ (by kernel_rfl) ?_
    refine sH rfl rfl rfl rfl (jP rfl) ⟨rfl,trivial⟩ (by kernel_rfl) ?_
    refine sH rfl rfl rfl rfl (jP rfl) ⟨rfl,trivial⟩ (by kernel_rfl) ?_
    refine uI ?_
    exact fun a w st=>⟨rfl,(),(SE.fin (Γ':=[(4,.eq (.int .i64 bx.1)),(5,.eq (.int .i64 bx.2)),(6,.eq (.int .i64 bn)),(7,.eq (.int .i64 0))]) [0] ⟨rfl,rfl,rfl,rfl,trivial⟩ rfl) a w st⟩
   ·
    refine ae ?_
    show JC _ _ _ _ _
    refine aB ?_
    refine bO 1 rfl ?_
    exact aJ () [_,_,_,_] 1 ⟨rfl,rfl,rfl,rfl,trivial⟩ rfl
def mQ(k:Nat)(a0:(List Int))(a1:cR)(a2:(List (List Int)))(a3:Int)(a4:Int):Option Int:=
 (eI k a1 a2).bind fun r1=>
 (a9 r1 a3).bind fun x3=>
 (dG k (List.set r1 (Int.toNat a3) a0)).bind fun r4=>
 (fm k a1 r4 a4).bind fun r5=>
 some r5
theorem s4(k:Nat)(a0:(List Int))(a1:cR)(l:Nat)(a2:(List (List Int)))(j:Nat)(a3:Int)(e:Nat)(a4:Int)(c:Nat)(r:Int)(h:mQ k a0 a1 a2 a3 a4=some r):
 c6 (hQ Tryz.prog) 104 [Ri a0,Pt l,Pt j,Pt e,Pt c] [.obj l 102 (.at bj a1),.obj j 107 (.rep (.arr 3 (.arr 5 (.int .i64))) a2),.obj e 3 (I a3),.obj c 3 (I a4)] (fun _:Unit=>(bv [I r],[.obj l 102 (.at bj a1),.obj j 107 (.rep (.arr 3 (.arr 5 (.int .i64))) a2),.obj e 3 (I a3),.obj c 3 (I a4)])):=by
 unfold mQ at h
 replace h:=ba h
 refine c6.of 20 Tryz.func104 rfl Tryz.ntmps104 rfl fun S w0=>?_
 refine sr ?_
 refine cq ?_
 refine nt ?_
 refine sr ?_
 refine lo nk ?_
 refine fr 1 ?_
 refine lo cN ?_
 obtain⟨r1,x,h⟩:=ab h
 have E:=iP k a1 a2 r1 x
 refine aD rfl rfl rfl (ar [.tmp 8,.tmp 9] rfl rfl LZ rfl E) ⟨rfl,rfl,trivial⟩ fun v2=>?_
 refine aq ?_
 refine nt ?_
 refine sr ?_
 refine mq ?_
 refine fr 3 ?_
 refine lo dw ?_
 refine mq ?_
 obtain⟨x3,n,h⟩:=ab h
 refine fr 1 ?_
 refine kb (cE (t:=(.slice (.int .i64))) rfl lj cp n) ?_
 refine a8 rfl rfl (fV (i:=Int.toNat a3) rfl cp rfl (lO n) rfl .rep rfl) ⟨rfl,rfl,trivial⟩ ?_
 refine nt ?_
 refine ah ?_
 refine fP (fM [7,10,11] ⟨rfl,rfl,rfl,trivial⟩) ?_
 refine bZ ?_
 refine ea 2 (an rfl nk mN rfl) ?_
 refine dm ?_
 obtain⟨r4,u,h⟩:=ab h
 have D:=eJ k (List.set r1 (Int.toNat a3) a0) r4 u
 refine da (ar [.tmp 16] rfl rfl DU rfl D) ?_
 refine ea 3 (an rfl dw mN rfl) ?_
 refine df eU ?_
 obtain⟨r5,s,h⟩:=ab h
 have y:=lC k a1 r4 a4 r5 s
 refine jc (dN [.tmp 15,.tmp 17,.tmp 18] rfl rfl KI rfl y) ?_
 refine aq ?_
 refine nt ?_
 refine aB ?_
 refine bS (SE.fin (Γ':=[(6,_)]) [2,1,0,3] ⟨rfl,trivial⟩ rfl) ?_
 cases h
 exact aJ () [_] 4 ⟨rfl,trivial⟩ rfl
def gB(k:Nat)(a0_0:cR)(a0_1:(List (List Int)))(a0_2:Int)(a0_3:Int)(a1:(List (List Int))):Nat→((List Int)×Int×Bool×Int)→Option ((List Int)×Int×Bool)
 |0,_=>none
 |n+1,y3=>
  if y3.2.2.2 < (a1.length:Int) then((((a9 a1 y3.2.2.2).bind fun x7=>
  (mQ k x7 a0_0 a0_1 a0_2 a0_3).bind fun r8=>
  ((if¬(y3.2.2.1=true) then(some true) else(some (decide (r8 < y3.2.1)))):Option (Bool)).bind fun x9=>
  if x9=true then(some (x7,r8,true)) else(some (y3.1,y3.2.1,y3.2.2.1))):Option ((List Int)×Int×Bool)).bind fun x5=>
  (ck (y3.2.2.2+1)).bind fun c=>
  gB k a0_0 a0_1 a0_2 a0_3 a1 n (x5.1,x5.2.1,x5.2.2,c)) else(some (y3.1,y3.2.1,y3.2.2.1))
def kK(k:Nat)(a0_0:cR)(a0_1:(List (List Int)))(a0_2:Int)(a0_3:Int)(a1:(List (List Int))):Option ((List Int)×Int×Bool):=
 ((gB k a0_0 a0_1 a0_2 a0_3 a1 k ([],0,false,0)):Option ((List Int)×Int×Bool)).bind fun x1=>
 some (x1.1,x1.2.1,x1.2.2)
theorem qz(k:Nat)(a0_0:cR)(c_a0_0:Nat)(a0_1:(List (List Int)))(c_a0_1:Nat)(a0_2:Int)(c_a0_2:Nat)(a0_3:Int)(c_a0_3:Nat)(a1:(List (List Int)))(r:(List Int)×Int×Bool)(h:kK k a0_0 a0_1 a0_2 a0_3 a1=some r):
 c6 (hQ Tryz.prog) 106 [.eq (.func (.func 104) #[] #[(Pv c_a0_0),(Pv c_a0_1),(Pv c_a0_2),(Pv c_a0_3)]),.rep (.slice (.slice (.int .i64))) a1] [.obj c_a0_0 102 (.at bj a0_0),.obj c_a0_1 107 (.rep (.arr 3 (.arr 5 (.int .i64))) a0_1),.obj c_a0_2 3 (I a0_2),.obj c_a0_3 3 (I a0_3)] (fun _:Unit=>(bv [Ri r.1,I r.2.1,.eq (.bool r.2.2)],[.obj c_a0_0 102 (.at bj a0_0),.obj c_a0_1 107 (.rep (.arr 3 (.arr 5 (.int .i64))) a0_1),.obj c_a0_2 3 (I a0_2),.obj c_a0_3 3 (I a0_3)])):=by
 unfold kK at h
 replace h:=ba h
 refine c6.of 35 Tryz.func106 rfl Tryz.ntmps106 rfl fun S w0=>?_
 refine sr ?_
 refine cq ?_
 refine cq ?_
 refine cq ?_
 refine nt ?_
 refine sr ?_
 refine cq ?_
 refine nt ?_
 refine sr ?_
 refine cq ?_
 refine cq ?_
 refine nt ?_
 refine aK (Z:=Unit) (α:=(List Int)×Int×Bool) (fun z2 x1=>[(7,Ri x1.1),(8,I x1.2.1),(9,.eq (.bool x1.2.2))]) (fun z2 x1=>[.obj c_a0_0 102 (.at bj a0_0),.obj c_a0_1 107 (.rep (.arr 3 (.arr 5 (.int .i64))) a0_1),.obj c_a0_2 3 (I a0_2),.obj c_a0_3 3 (I a0_3)]) h (fun K h=>?_) (fun z2 x1 h=>?_)
 ·
  refine sr (mq ?_);refine ol lj ?_;refine eB rfl ?_;refine nt (aj (fP (l8 (t:=(.slice (.int .i64))) (x:=[]) 7 rfl .nil rfl rfl) ?_));refine aH (fun z4 y3=>[(0,.eq (.func (.func 104) #[] #[(Pv c_a0_0),(Pv c_a0_1),(Pv c_a0_2),(Pv c_a0_3)])),(7,Ri y3.1),(8,I y3.2.1),(9,.eq (.bool y3.2.2.1)),(13,.rep (.slice (.slice (.int .i64))) a1),(14,I (a1.length:Int)),(15,I y3.2.2.2)]) (fun z4 y3=>[.obj c_a0_0 102 (.at bj a0_0),.obj c_a0_1 107 (.rep (.arr 3 (.arr 5 (.int .i64))) a0_1),.obj c_a0_2 3 (I a0_2),.obj c_a0_3 3 (I a0_3)]) (gB k a0_0 a0_1 a0_2 a0_3 a1) k () ([],0,false,0) (fun _=>rfl) h (SE.fin [0,1,2,3] ⟨rfl,rfl,rfl,rfl,rfl,rfl,rfl,trivial⟩ rfl) (fun n z4 y3 h=>?_);unfold gB at h;refine sr (jb (bz rfl) ?_);refine nt (ah (ci h (fun h=>?_) (fun h=>?_)))
  ·refine sk (aK (Z:=Unit) (α:=(List Int)×Int×Bool) (fun z6 x5=>[(0,.eq (.func (.func 104) #[] #[(Pv c_a0_0),(Pv c_a0_1),(Pv c_a0_2),(Pv c_a0_3)])),(7,Ri x5.1),(8,I x5.2.1),(9,.eq (.bool x5.2.2)),(13,.rep (.slice (.slice (.int .i64))) a1),(14,I (a1.length:Int)),(15,I y3.2.2.2)]) (fun z6 x5=>[.obj c_a0_0 102 (.at bj a0_0),.obj c_a0_1 107 (.rep (.arr 3 (.arr 5 (.int .i64))) a0_1),.obj c_a0_2 3 (I a0_2),.obj c_a0_3 3 (I a0_3)]) h (fun K h=>?_) (fun z6 x5 h=>?_))
   ·refine aj (sr ?_);obtain⟨x7,l,h⟩:=ab h;refine jb (aL (t:=(.slice (.int .i64))) rfl lj cp l) ?_;refine ja (ao (t:=(.slice (.int .i64))) rfl cp rfl) ?_;refine aq (nt (sr ?_));iterate 2 refine mq ?_
    obtain⟨r8,u,h⟩:=ab h;refine fr 3 ?_;refine fr 3 ?_;refine fr 3 ?_;refine fr 3 ?_;refine bH (Δ:=[_,_,_,_]) (F:=_) (fun _ _ _=>au rfl _) rfl rfl (nQ (fs:=[]) (cs:=[(Pv c_a0_0),(Pv c_a0_1),(Pv c_a0_2),(Pv c_a0_3)]) (ags:=[Ri x7]) [.tmp 20] rfl rfl Px rfl (s4 k x7 a0_0 c_a0_0 a0_1 c_a0_1 a0_2 c_a0_2 a0_3 c_a0_3 r8 u)) ⟨rfl,rfl,trivial⟩ fun _=>?_;refine aq (nt ?_);refine aK (Z:=Unit) (α:=Bool) (fun c x9=>[(0,.eq (.func (.func 104) #[] #[(Pv c_a0_0),(Pv c_a0_1),(Pv c_a0_2),(Pv c_a0_3)])),(7,Ri y3.1),(8,I y3.2.1),(9,.eq (.bool y3.2.2.1)),(11,Ri x7),(12,I r8),(13,.rep (.slice (.slice (.int .i64))) a1),(14,I (a1.length:Int)),(15,I y3.2.2.2),(28,.eq (.bool x9))]) (fun c x9=>[.obj c_a0_0 102 (.at bj a0_0),.obj c_a0_1 107 (.rep (.arr 3 (.arr 5 (.int .i64))) a0_1),.obj c_a0_2 3 (I a0_2),.obj c_a0_3 3 (I a0_3)]) h (fun K h=>?_) (fun c x9 h=>?_)
    ·refine aa (mq ?_);refine ja (fW rfl) ?_;refine mq ?_;refine bG (s:=24) rfl (fun hb=>?_) (fun hb=>?_)
     ·replace h:=cm (Dp hb) h;iterate 3 refine gn ?_
      refine pt (nl ?_);exact jz ((),true) h [0,1,2,3]
     ·replace h:=bD (vx hb) h;refine gm ?_;refine gm ?_;refine gb (bz rfl) ?_;refine pf (nl ?_);exact jz ((),decide (r8 < y3.2.1)) h [0,1,2,3]
    ·refine cv h (fun h=>?_) (fun h=>?_)
     ·refine aa ?_;iterate 2 refine mq ?_
      refine aq ?_;refine aq ?_;refine cq (ak (bn ?_));exact jz ((),(x7,r8,true)) h [0,1,2,3]
     ·refine aO (bn ?_);exact jz ((),(y3.1,y3.2.1,y3.2.2.1)) h [0,1,2,3]
   ·refine aa ?_;obtain⟨j,e,h⟩:=ab h;refine jb (bh rfl e) ?_;refine mq (nl ?_);exact jz ((),(x5.1,x5.2.1,x5.2.2,j)) h [0,1,2,3]
  ·refine xa ?_;exact jz ((),(y3.1,y3.2.1,y3.2.2.1)) h [0,1,2,3]
 ·
  refine sr ?_;iterate 3 refine mq ?_
  refine aq ?_;refine aq ?_;refine aq (nt (aB ?_));cases h;exact aJ () [_,_,_] 4 ⟨rfl,rfl,rfl,trivial⟩ rfl
def pJ(k:Nat)(a0:bR)(a1:(List (List Int)))(a2:Int)(a3:Int):Option ((List Int)×Int×Int):=
 (cg k a0 a1).bind fun r4=>
 if¬(r4=0) then(some ([],0,r4)) else((((ck ((a0.2.2.length:Int) - 1)).bind fun x7=>
 (dP k a2 0 x7).bind fun r8=>
 if¬(r8=true) then(some true) else((dP k a3 0 a0.1).bind fun r9=>
 some (!r9))):Option (Bool)).bind fun x5=>
 if x5=true then(some ([],0,3)) else((dG k a1).bind fun n=>
 (kF k (a0,()) n a3).bind fun e=>
 (dC k e a2).bind fun l=>
 (kP k l).bind fun j=>
 (kH k k j).bind fun h=>
 (kK k (a0,()) e a2 a3 h).bind fun c=>
 some (c.1,c.2.1,0)))
theorem uQ(k:Nat)(a0:bR)(a1:(List (List Int)))(a2:Int)(a3:Int)(r:(List Int)×Int×Int)(h:pJ k a0 a1 a2 a3=some r):
 c6 (hQ Tryz.prog) 42 [.rep aI a0,.rep (.slice (.slice (.int .i64))) a1,I a2,I a3] [.inv 0 (eF)] (fun _:Unit=>(bv [Ri r.1,I r.2.1,I r.2.2],[.inv 0 (eF)])):=by
 unfold pJ at h
 replace h:=ba h
 refine c6.of 60 Tryz.func42 rfl Tryz.ntmps42 rfl fun S w0=>?_
 refine sr ?_
 refine bx fun b1=>?_
 refine bx fun b2=>?_
 refine bx fun b3=>?_
 refine cq ?_
 refine cq ?_
 refine cq ?_
 refine nt ?_
 refine ah ?_
 refine sr ?_
 refine fr 2 ?_
 refine lo jk ?_
 refine mq ?_
 obtain⟨r4,RD,h⟩:=ab h
 have RE:=dT k a0 a1 r4 RD
 refine fr 3 ?_
 refine kb (ar [.tmp 18,.tmp 19] rfl rfl Jh rfl RE) ?_
 refine aq ?_
 refine nt ?_
 refine sr ?_
 refine mq ?_
 refine jb (iH rfl) ?_
 refine nt ?_
 refine cn h (fun h=>?_) (fun h=>?_)
 ·
  refine sr (mq ?_);refine cq ?_;refine cq ?_;refine aq (nt (rx ?_));refine bS (l8 (t:=(.slice (.int .i64))) (x:=[]) 8 rfl .nil rfl rfl) ?_;cases h;exact aJ () [_,_,_] 1 ⟨rfl,rfl,rfl,trivial⟩ rfl
 ·
  refine sk (ah (aK (Z:=Unit) (α:=Bool) (fun z6 x5=>[(1,.rep (.slice (.slice (.int .i64))) a1),(4,Pt b1),(6,Pt b2),(7,Pt b3),(37,.eq (.bool x5))]) (fun z6 x5=>[.obj b1 25 (.rep aI a0),.obj b2 3 (I a2),.obj b3 3 (I a3),.inv 0 (eF)]) h (fun K h=>?_) (fun z6 x5 h=>?_)))
  ·refine aa (fr 3 ?_);refine lo dw ?_;refine fl iZ ?_;refine fr 2 ?_;refine lo cp ?_;refine ol fY ?_;obtain⟨x7,Rz,h⟩:=ab h;refine jb (gC rfl Rz) ?_;obtain⟨r8,RB,h⟩:=ab h;refine jc (ar [.tmp 24,.const (.int .i64 (0)),.tmp 28] rfl rfl zb rfl (d5 k a2 0 x7 r8 RB)) ?_;refine ja (fW rfl) ?_;refine mq ?_;refine bG (s:=31) rfl (fun hb=>?_) (fun hb=>?_)
   ·replace h:=cm (Dp hb) h;iterate 5 refine gn ?_
    refine pt (nl ?_);exact jz ((),true) h [0,1,3,2]
   ·replace h:=bD (vx hb) h;refine fr 3 ?_;refine lm rfl rfl rfl rfl rfl rfl (an rfl dw mN rfl) ⟨rfl,trivial⟩ ?_;refine ga (ax rfl qf) ?_;refine fr 1 ?_;refine lm rfl rfl rfl rfl rfl rfl (an rfl dw mN rfl) ⟨rfl,trivial⟩ ?_;obtain⟨r9,RA,h⟩:=ab h;refine gc (ar [.tmp 32,.const (.int .i64 (0)),.tmp 34] rfl rfl zb rfl (d5 k a3 0 a0.1 r9 RA)) ?_;refine ga (fW rfl) ?_;refine pf (nl ?_);exact jz ((), !r9) h [0,2,1,3]
  ·refine cv h (fun h=>?_) (fun h=>?_)
   ·refine sr (cq ?_);refine cq ?_;refine cq (nt (rx ?_));refine bS (l8 (t:=(.slice (.int .i64))) (x:=[]) 8 rfl .nil rfl rfl) ?_;refine bS (SE.fin (Γ':=[(8,_),(9,_),(10,_)]) [3,0,1,2] ⟨rfl,rfl,rfl,trivial⟩ rfl) ?_;cases h;exact aJ () [_,_,_] 1 ⟨rfl,rfl,rfl,trivial⟩ rfl
   ·refine sk (sr (lo jk ?_));refine aD rfl rfl rfl (ar [.tmp 38] rfl rfl GY rfl (fD a0)) ⟨rfl,trivial⟩ fun c=>?_;refine co (jD (bi k a0) kC) ?_;refine aD rfl rfl rfl (bF rfl J0 KN) trivial fun j=>?_;refine a8 rfl rfl (aW rfl nk trivial rfl rfl) ⟨rfl,rfl,trivial⟩ ?_;refine nt (ah (mL ?_));refine il 0 rfl rfl rfl rfl (an rfl nk mN rfl) ⟨rfl,trivial⟩ ?_;refine be rfl rfl rfl (aZ rfl) ⟨rfl,trivial⟩ ?_;obtain⟨u,U,h⟩:=ab h;refine be rfl rfl rfl (ar [.tmp 41] rfl rfl DU rfl (eJ k a1 u U)) ⟨rfl,trivial⟩ ?_;refine il 4 rfl rfl rfl rfl (an rfl dw mN rfl) ⟨rfl,trivial⟩ ?_;obtain⟨l,Q,h⟩:=ab h;refine be rfl rfl rfl (dt (N:=[(.tmp 40,.at ap (a0,(.map (some c)))),(.tmp 42,.rep (.arr 3 (.arr 5 (.int .i64))) u),(.tmp 43,I a3)]) (ar [.tmp 40,.tmp 42,.tmp 43] rfl rfl Py rfl (qy k (a0,()) u a3 l Q)) fun _ _ _ hn=>⟨(qk hn.1),hn.2.1,hn.2.2.1,trivial⟩) ⟨rfl,rfl,rfl,trivial⟩ ?_;refine CG (K8 107 (.rep (.arr 3 (.arr 5 (.int .i64))) [[0,0,0,0,0],[0,0,0,0,0],[0,0,0,0,0]])) (fun _=>rfl) rfl rfl rfl (bF rfl lx lS) trivial ?_;refine sK 6 [true,true,true,true,true,true] [] [] [] rfl (by kernel_rfl) (by kernel_rfl) (by kernel_rfl) eU (fun vs hv hB=>?_);obtain⟨w0,RN,rfl,se⟩:=av hv;obtain⟨w1,RL,rfl,qt⟩:=av se;obtain⟨w2,RJ,rfl,pp⟩:=av qt;obtain⟨w3,RI,rfl,mc⟩:=av pp;obtain⟨w4,RH,rfl,ac⟩:=av mc;obtain⟨w5,RG,rfl,Y⟩:=av ac;obtain rfl:=oU Y;obtain⟨e,rfl⟩:=K7 hB.2.2.2.2.2.1;refine⟨[0,1,2,3,4,5,6],[.obj j 102 (.at ap (a0,(.map (some c)))),.inv c (bi k a0),.obj b1 25 (.rep aI a0),.obj b2 3 (I a2),.obj b3 3 (I a3),.inv 0 (eF),.obj e 107 (.rep (.arr 3 (.arr 5 (.int .i64))) [[0,0,0,0,0],[0,0,0,0,0],[0,0,0,0,0]])],by kernel_rfl,by decide,?_⟩;refine oz 6 rfl ?_;refine uJ rfl rfl (aW rfl cN rfl rfl rfl) ⟨rfl,rfl,trivial⟩ (by kernel_rfl) ?_;refine uI ?_;refine bS (SE.fin (Γ':=[(6,Pt b2),(7,Pt b3),(12,Pt j),(13,Pt e)]) (Δ':=[.obj e 107 (.rep (.arr 3 (.arr 5 (.int .i64))) l),.obj j 102 (.at ap (a0,(.map (some c)))),.inv c (bi k a0),.obj b1 25 (.rep aI a0),.obj b2 3 (I a2),.obj b3 3 (I a3),.inv 0 (eF)]) [0,1,2,3,4,5,6] ⟨rfl,rfl,rfl,rfl,trivial⟩ rfl) ?_;refine tn (sr (aA rfl (sa [] [.tmp 12,.tmp 13,.tmp 6,.tmp 7] [] [(Pv j),(Pv e),(Pv b2),(Pv b3)] rfl rfl rfl) ⟨rfl,rfl,rfl,rfl,trivial⟩ ?_));refine aq (nt (sr ?_));refine mq ?_;refine lo cN ?_;refine fr 4 ?_;refine lo dw ?_;obtain⟨n,O,h⟩:=ab h;refine jb (ar [.tmp 48,.tmp 49] rfl rfl BU rfl (fE k l a2 n O)) ?_;refine aD rfl rfl rfl (ar [.tmp 50] rfl rfl Pm rfl (qH n)) ⟨rfl,trivial⟩ fun RF=>?_;obtain⟨D,M,h⟩:=ab h;refine ka (ar [.tmp 51] rfl rfl Pn rfl (qI k n RF D M)) ?_;obtain⟨y,J,h⟩:=ab h;refine ja (ar [.tmp 52] rfl rfl KH rfl (uO k k D y J)) ?_;refine fr 3 ?_;refine co (pg (a:=.at ap (a0,(.map (some c)))) (a':=.at bj (a0,())) MK) ?_
    obtain⟨X,E,h⟩:=ab h;refine fr 6 ?_;refine fr 3 ?_;refine fr 4 ?_;refine fr 3 ?_;refine bH (Δ:=[_,_,_,_]) (F:=_) (fun _ _ _=>au rfl _) rfl rfl (dN [.tmp 47,.tmp 53] rfl rfl Po rfl (qz k (a0,()) j l e a2 b2 a3 b3 y X E)) ⟨rfl,rfl,trivial⟩ fun _=>?_;refine mq ?_;refine xr ?_;refine xr ?_;refine xr ?_;refine aq ?_;refine aq ?_;refine aq (nt (sr ?_));iterate 2 refine mq ?_
    refine aq ?_;refine aq ?_;refine cq (nt (aB ?_));refine bS (SE.fin (Γ':=[(8,_),(9,_),(10,_)]) [7,0,1,2,3,4,5,6] ⟨rfl,rfl,rfl,trivial⟩ rfl) ?_;cases h;exact aJ () [_,_,_] 1 ⟨rfl,rfl,rfl,trivial⟩ rfl
def cK(k:Nat)(a0:bR)(a1:(List (List (List Int)))):Nat→((List (List Int))×Int×Bool×Int)→Option ((List (List Int))×Int×Bool)
 |0,_=>none
 |n+1,y5=>
  if y5.2.2.2 < (a1.length:Int) then((((a9 a1 y5.2.2.2).bind fun x9=>
  (bm k a0 x9).bind fun c=>
  ((if¬(y5.2.2.1=true) then(some true) else(some (decide (c < y5.2.1)))):Option (Bool)).bind fun h=>
  if h=true then(some (x9,c,true)) else(some (y5.1,y5.2.1,y5.2.2.1))):Option ((List (List Int))×Int×Bool)).bind fun x7=>
  (ck (y5.2.2.2+1)).bind fun e=>
  cK k a0 a1 n (x7.1,x7.2.1,x7.2.2,e)) else(some (y5.1,y5.2.1,y5.2.2.1))
def gV(k:Nat)(a0:bR)(a1:(List (List (List Int)))):Option ((List (List Int))×Int×Bool):=
 ((cK k a0 a1 k ([[0,0,0,0,0],[0,0,0,0,0],[0,0,0,0,0]],0,false,0)):Option ((List (List Int))×Int×Bool)).bind fun x3=>
 some (x3.1,x3.2.1,x3.2.2)
theorem qA(k:Nat)(a0:bR)(z_a0:Nat)(a1:(List (List (List Int))))(r:(List (List Int))×Int×Bool)(h:gV k a0 a1=some r):
 c6 (hQ Tryz.prog) 114 [.fn 111 (tC [.at ap (a0,(.map (some z_a0)))]),.rep (.slice (.arr 3 (.arr 5 (.int .i64)))) a1] [.inv z_a0 (bi k a0)] (fun _:Unit=>(bv [.rep (.arr 3 (.arr 5 (.int .i64))) r.1,I r.2.1,.eq (.bool r.2.2)],[.inv z_a0 (bi k a0)])):=by
 unfold gV at h
 replace h:=ba h
 refine c6.of 35 Tryz.func114 rfl Tryz.ntmps114 rfl fun S w0=>?_
 refine sr ?_
 refine aD rfl rfl rfl (bF rfl lx lS) trivial fun b1=>?_
 refine cq ?_
 refine cq ?_
 refine nt ?_
 refine sr ?_
 refine aD rfl rfl rfl (bF rfl lx lS) trivial fun b2=>?_
 refine nt ?_
 refine sr ?_
 refine cq ?_
 refine cq ?_
 refine nt ?_
 refine aK (Z:=Unit) (α:=(List (List Int))×Int×Bool) (fun z4 x3=>[(4,Pt b1),(7,Pt b2),(8,I x3.2.1),(9,.eq (.bool x3.2.2))]) (fun z4 x3=>[.obj b1 107 (.rep (.arr 3 (.arr 5 (.int .i64))) [[0,0,0,0,0],[0,0,0,0,0],[0,0,0,0,0]]),.obj b2 107 (.rep (.arr 3 (.arr 5 (.int .i64))) x3.1),.inv z_a0 (bi k a0)]) h (fun K h=>?_) (fun z4 x3 h=>?_)
 ·
  refine sr (mq ?_);refine ol PR ?_;refine eB rfl ?_;refine nt (aj (aH (fun z6 y5=>[(0,.fn 111 (tC [.at ap (a0,(.map (some z_a0)))])),(4,Pt b1),(7,Pt b2),(8,I y5.2.1),(9,.eq (.bool y5.2.2.1)),(13,.rep (.slice (.arr 3 (.arr 5 (.int .i64)))) a1),(14,I (a1.length:Int)),(15,I y5.2.2.2)]) (fun z6 y5=>[.obj b1 107 (.rep (.arr 3 (.arr 5 (.int .i64))) [[0,0,0,0,0],[0,0,0,0,0],[0,0,0,0,0]]),.obj b2 107 (.rep (.arr 3 (.arr 5 (.int .i64))) y5.1),.inv z_a0 (bi k a0)]) (cK k a0 a1) k () ([[0,0,0,0,0],[0,0,0,0,0],[0,0,0,0,0]],0,false,0) (fun _=>rfl) h (SE.fin [1,0,2] ⟨rfl,rfl,rfl,rfl,rfl,rfl,rfl,rfl,trivial⟩ rfl) (fun n z6 y5 h=>?_)));unfold cK at h;refine sr (jb (bz rfl) ?_);refine nt (ah (ci h (fun h=>?_) (fun h=>?_)))
  ·refine sk (aK (Z:=Unit) (α:=(List (List Int))×Int×Bool) (fun z8 x7=>[(0,.fn 111 (tC [.at ap (a0,(.map (some z_a0)))])),(4,Pt b1),(7,Pt b2),(8,I x7.2.1),(9,.eq (.bool x7.2.2)),(13,.rep (.slice (.arr 3 (.arr 5 (.int .i64)))) a1),(14,I (a1.length:Int)),(15,I y5.2.2.2)]) (fun z8 x7=>[.obj b1 107 (.rep (.arr 3 (.arr 5 (.int .i64))) [[0,0,0,0,0],[0,0,0,0,0],[0,0,0,0,0]]),.obj b2 107 (.rep (.arr 3 (.arr 5 (.int .i64))) x7.1),.inv z_a0 (bi k a0)]) h (fun K h=>?_) (fun z8 x7 h=>?_))
   ·refine aj (sr ?_);obtain⟨x9,D,h⟩:=ab h;refine jb (aL (t:=(.arr 3 (.arr 5 (.int .i64)))) rfl PR cN D) ?_;refine ja (ao (t:=(.arr 3 (.arr 5 (.int .i64)))) rfl cN rfl) ?_;refine aD rfl rfl rfl (bF rfl lx lS) trivial fun x=>?_;refine a8 rfl rfl (aW rfl cN rfl rfl rfl) ⟨rfl,rfl,trivial⟩ ?_;refine nt (sr (mq ?_));refine lo cN ?_;obtain⟨c,u,h⟩:=ab h;refine fr 3 ?_;refine kb (FA (fs:=[.at ap (a0,(.map (some z_a0)))]) (ags:=[.rep (.arr 3 (.arr 5 (.int .i64))) x9]) [.tmp 20] rfl rfl G0 rfl (gy k a0 z_a0 x9 c u)) ?_;refine aq (nt ?_);refine aK (Z:=Unit) (α:=Bool) (fun j e=>[(0,.fn 111 (tC [.at ap (a0,(.map (some z_a0)))])),(4,Pt b1),(7,Pt b2),(8,I y5.2.1),(9,.eq (.bool y5.2.2.1)),(11,Pt x),(12,I c),(13,.rep (.slice (.arr 3 (.arr 5 (.int .i64)))) a1),(14,I (a1.length:Int)),(15,I y5.2.2.2),(28,.eq (.bool e))]) (fun j e=>[.obj b1 107 (.rep (.arr 3 (.arr 5 (.int .i64))) [[0,0,0,0,0],[0,0,0,0,0],[0,0,0,0,0]]),.obj b2 107 (.rep (.arr 3 (.arr 5 (.int .i64))) y5.1),.obj x 107 (.rep (.arr 3 (.arr 5 (.int .i64))) x9),.inv z_a0 (bi k a0)]) h (fun K h=>?_) (fun j e h=>?_)
    ·refine aa (mq ?_);refine ja (fW rfl) ?_;refine mq ?_;refine bG (s:=24) rfl (fun hb=>?_) (fun hb=>?_)
     ·replace h:=cm (Dp hb) h;iterate 3 refine gn ?_
      refine pt (nl ?_);exact jz ((),true) h [2,3,1,0]
     ·replace h:=bD (vx hb) h;refine gm ?_;refine gm ?_;refine gb (bz rfl) ?_;refine pf (nl ?_);exact jz ((),decide (c < y5.2.1)) h [2,3,1,0]
    ·refine cv h (fun h=>?_) (fun h=>?_)
     ·refine aa (fr 2 ?_);refine lo cN ?_;refine mq ?_;refine fr 2 ?_;refine a8 rfl rfl (aW rfl cN rfl rfl rfl) ⟨rfl,rfl,trivial⟩ ?_;refine aq ?_;refine cq (ak (bn ?_));exact jz ((),(x9,c,true)) h [2,0,3]
     ·refine aO (bn ?_);exact jz ((),(y5.1,y5.2.1,y5.2.2.1)) h [0,1,3]
   ·refine aa ?_;obtain⟨y,l,h⟩:=ab h;refine jb (bh rfl l) ?_;refine mq (nl ?_);exact jz ((),(x7.1,x7.2.1,x7.2.2,y)) h [0,1,2]
  ·refine xa ?_;exact jz ((),(y5.1,y5.2.1,y5.2.2.1)) h [0,1,2]
 ·
  refine sr (fr 1 ?_);refine lo cN ?_;iterate 2 refine mq ?_
  refine fr 1 ?_;refine a8 rfl rfl (aW rfl cN rfl rfl rfl) ⟨rfl,rfl,trivial⟩ ?_;refine aq ?_;refine aq (nt (aB ?_));refine bS (SE.fin (Γ':=[(4,_),(5,_),(6,_)]) [2,0,1] ⟨rfl,rfl,rfl,trivial⟩ rfl) ?_;cases h;exact aJ () [.rep (.arr 3 (.arr 5 (.int .i64))) x3.1,_,_] 1 ⟨⟨_,_,_,_,_,rfl,(.tail _ (.head _)),cN,(zK),rfl⟩,rfl,rfl,trivial⟩ rfl
def kL(k:Nat)(a0:bR):Option ((List (List Int))×Int×Int):=
 (kx k a0).bind fun r2=>
 if¬(r2=0) then(some ([],0,r2)) else((fG k (a0,())).bind fun r5=>
 (gV k a0 r5).bind fun r6=>
 if¬(r6.2.2=true) then(some ([],0,11)) else((eI k (a0,()) r6.1).bind fun r8=>
 some (r8,r6.2.1,0)))
theorem nI(k:Nat)(a0:bR)(r:(List (List Int))×Int×Int)(h:kL k a0=some r):
 c6 (hQ Tryz.prog) 56 [.rep aI a0] [] (fun _:Unit=>(bv [.rep (.slice (.slice (.int .i64))) r.1,I r.2.1,I r.2.2],[])):=by
 unfold kL at h
 replace h:=ba h
 refine c6.of 33 Tryz.func56 rfl Tryz.ntmps56 rfl fun S w0=>?_
 refine sr ?_
 refine bx fun b1=>?_
 refine cq ?_
 refine cq ?_
 refine cq ?_
 refine nt ?_
 refine ah ?_
 refine sr ?_
 refine lo jk ?_
 obtain⟨r2,l,h⟩:=ab h
 have n:=qC k a0 r2 l
 refine ja (ar [.tmp 10] rfl rfl OQ rfl n) ?_
 refine aq ?_
 refine nt ?_
 refine sr ?_
 refine mq ?_
 refine jb (iH rfl) ?_
 refine nt ?_
 refine cn h (fun h=>?_) (fun h=>?_)
 ·
  refine sr (mq ?_);refine cq ?_;refine cq ?_;refine aq (nt (rx ?_));refine bS (l8 (t:=(.slice (.slice (.int .i64)))) (x:=[]) 2 rfl .nil rfl rfl) ?_;cases h;exact aJ () [_,_,_] 0 ⟨rfl,rfl,rfl,trivial⟩ rfl
 ·
  refine sk (sr (lo jk ?_));refine aD rfl rfl rfl (ar [.tmp 15] rfl rfl GY rfl (fD a0)) ⟨rfl,trivial⟩ fun z3=>?_;refine co (jD (bi k a0) kC) ?_;refine aq (nt (sr ?_));refine mq ?_;refine ja (Is [.tmp 18] [.at ap (a0,(.map (some z3)))] rfl rfl) ?_;refine mq ?_;refine aD rfl rfl rfl (dt (N:=[(.tmp 20,.at ap (a0,(.map (some z3))))]) (ar [.tmp 20] rfl rfl KE rfl (jN (a0,()))) fun _ _ _ hn=>⟨qk hn.1,trivial⟩) ⟨rfl,trivial⟩ fun b4=>?_;obtain⟨r5,j,h⟩:=ab h;refine ka (ar [.tmp 21] rfl rfl Pj rfl (po k (a0,()) b4 r5 j)) ?_;obtain⟨r6,e,h⟩:=ab h;refine fr 1 ?_;refine kb (dN [.tmp 19,.tmp 22] rfl rfl Pl rfl (qA k a0 z3 r5 r6 e)) ?_;refine mq ?_;refine xr ?_;refine xr ?_;refine xr ?_;refine aD rfl rfl rfl (bF rfl lx lS) trivial fun b7=>?_;refine a8 rfl rfl (aW rfl cN rfl rfl rfl) ⟨rfl,rfl,trivial⟩ ?_;refine aq ?_;refine aq (nt (ah (sr ?_)));refine mq ?_;refine ja (fW rfl) ?_;refine nt (cw h (fun h=>?_) (fun h=>?_))
  ·refine sr (cq ?_);refine cq ?_;refine cq (nt (rx ?_));refine bS (l8 (t:=(.slice (.slice (.int .i64)))) (x:=[]) 2 rfl .nil rfl rfl) ?_;cases h;exact aJ () [_,_,_] 0 ⟨rfl,rfl,rfl,trivial⟩ rfl
  ·refine sk (sr (mq ?_));refine lo cN ?_;obtain⟨r8,c,h⟩:=ab h;refine aD rfl rfl rfl (dt (N:=[(.tmp 29,.at ap (a0,(.map (some z3)))),(.tmp 30,.rep (.arr 3 (.arr 5 (.int .i64))) r6.1)]) (ar [.tmp 29,.tmp 30] rfl rfl LZ rfl (iP k (a0,()) r6.1 r8 c)) fun _ _ _ hn=>⟨(qk hn.1),hn.2.1,trivial⟩) ⟨rfl,rfl,trivial⟩ fun v9=>?_;refine mq ?_;refine aq ?_;refine aq ?_;refine cq (nt (aB ?_));refine bS (fM [2,31] ⟨rfl,rfl,trivial⟩) ?_;cases h;exact aJ () [_,_,_] 0 ⟨rfl,rfl,rfl,trivial⟩ rfl
set_option maxRecDepth 20000
set_option maxHeartbeats 4000000
def M8(b:Nat):List Int→Option Addr
 |[]=>none
 |_::_=>some ⟨b,0,none⟩
def P3:List Int→Value→Value
 |[],_=>.slice none 0 0
 |_::_,v=>v
theorem MB(b:Nat)(l:List Int):M8 b l=none∨M8 b l=some ⟨b,0,none⟩:=by cases l <;> simp [M8]
theorem Hh(b:Nat)(l:List Int)(c:Int):M8 b (l++[c])=some ⟨b,0,none⟩:=by cases l <;> rfl
theorem Hg(l:List Int)(c:Int)(v:Value):P3 (l++[c]) v=v:=by cases l <;> rfl
theorem J8:l7 Tryz.prog 86 9 1 16:=.of (z:=(.string .empty)) Rw (by kernel_rfl) rfl rfl rfl
theorem LX:ag Tryz.prog 121:=ag.of Tryz.func121 (by kernel_rfl) (by kernel_rfl)
theorem OM:ag Tryz.prog 35:=ag.of Tryz.func35 (by kernel_rfl) (by kernel_rfl)
theorem NE:dx Tryz.prog 25 3 true:=⟨fun w=>by kernel_rfl,fun w=>by kernel_rfl⟩
theorem J5:dx Tryz.prog 23 1 false:=⟨fun w=>by kernel_rfl,fun w=>by kernel_rfl⟩
theorem ND:dx Tryz.prog 3 1 false:=⟨fun w=>by kernel_rfl,fun w=>by kernel_rfl⟩
def kG(c:Int):Int:=IntKind.i32.wrap (97+IntKind.i32.wrap c)
def kj(xs:List Int):Nat→Int×List Int→Option (List Int)
 |0,_=>none
 |n+1,y=>if y.1 < (xs.length:Int) then((a9 xs y.1).bind fun c=>if 0≤kG c∧kG c≤127∧bV (y.2.length+1) then(ck (y.1+1)).bind fun z=>kj xs n (z,y.2++[kG c]) else none) else some y.2
def iQ(k:Nat)(a1:List (List Int)):Nat→Int×List ByteArray→Option (List ByteArray)
 |0,_=>none
 |n+1,y=>if y.1 < (a1.length:Int) then((a9 a1 y.1).bind fun xs=>(kj xs k (0,[])).bind fun l=>if bV (y.2.length+1) then(ck (y.1+1)).bind fun z=>iQ k a1 n (z,y.2++[pK l]) else none) else some y.2
def rO(k:Nat)(a0:bR)(a1:(List (List Int))):Option (Value×Int):=
 (cg k a0 a1).bind fun e=>if¬(e=0) then some (.string .empty,e) else(iQ k a1 k (0,[])).bind fun ss=>(tf k ss ⟨#[47]⟩).bind fun r=>some (.string r,0)
theorem wv(k:Nat)(a0:bR)(a1:(List (List Int)))(r:Value×Int)(h:rO k a0 a1=some r):
 cd Tryz.prog 67 [.rep aI a0,.rep (.slice (.slice (.int .i64))) a1] [.inv 0 eF] (fun _:Unit=>(bv [.eq r.1,I r.2],[.inv 0 eF])):=by
 unfold rO at h
 replace h:=ba h
 refine cd.of 43 Tryz.func67 rfl Tryz.ntmps67 rfl fun S w0=>?_
 refine sr ?_
 refine bx fun b2=>?_
 refine cq ?_
 refine cq ?_
 refine nt ?_
 refine ah ?_
 refine sr ?_
 obtain⟨e,ee,h⟩:=ab h
 have ce:=dT k a0 a1 e ee
 refine ka (an rfl NE (xH) rfl) ?_
 refine mq ?_
 refine fr 1 ?_
 refine kb (ar [.tmp 13,.tmp 14] rfl rfl OM rfl ce) ?_
 refine aq ?_
 refine nt ?_
 refine sr ?_
 refine mq ?_
 refine jb (iH rfl) ?_
 refine nt ?_
 refine bB rfl (fun hb=>?_) (fun hb=>?_)
 ·
  replace h:=cm (NV hb) h;refine sr (mq ?_);refine cq ?_;refine aq (nt (rx ?_));cases h;exact aJ () [_,_] 1 ⟨rfl,rfl,trivial⟩ rfl
 replace h:=bD (FY hb) h
 refine sk ?_
 refine sr ?_
 refine cq ?_
 refine nt ?_
 rw [Option.bind_assoc] at h
 refine ah ?_
 refine sr ?_
 refine mq ?_
 refine ol lj ?_
 refine eB rfl ?_
 refine co (SE.nil 9 .str) ?_
 refine nt ?_
 refine aj ?_
 refine aH (fun v y=>[(7,.eq v),(19,.rep (.slice (.slice (.int .i64))) a1),(20,I (a1.length:Int)),(21,I y.1)]) (fun v y=>[.sl v 9 .str y.2,.inv 0 eF]) (iQ k a1) k (.slice none 0 0) (0,[]) (fun _=>rfl) h (SE.fin [0,1] ⟨rfl,rfl,rfl,rfl,trivial⟩ rfl) (fun n v7 y h=>?_)
 unfold iQ at h
 refine sr ?_
 refine jb (bz rfl) ?_
 refine nt ?_
 refine ah ?_
 refine bB rfl (fun hb=>?_) (fun hb=>?_)
 ·
  replace h:=cm (l5 hb) h;refine sk (ah (aj ?_));obtain⟨xs,exs,h⟩:=ab h;refine sr (jb (aL (t:=.slice (.int .i64)) rfl lj J5 exs) ?_);refine ja (ao (t:=.slice (.int .i64)) rfl J5 rfl) ?_;refine aq (nt (sr ?_));refine aD rfl rfl rfl (bF rfl Eo Hl) trivial fun b=>?_;refine nt ?_;rw [Option.bind_assoc] at h;refine ah (sr (mq ?_));refine ol fY ?_;refine eB rfl ?_;refine co (SE.nil 5 (.int .u8)) ?_;refine nt (aj ?_)
  refine aH (fun v q=>[(7,.eq v7),(10,.eq (bP b)),(19,.rep (.slice (.slice (.int .i64))) a1),(20,I (a1.length:Int)),(21,I y.1),(25,Ri xs),(26,I (xs.length:Int)),(27,I q.1)])
   (fun v q=>[.obj b 162 (bA (.pointer (M8 b q.2)) (P3 q.2 v)),.sl (P3 q.2 v) 5 (.int .u8) q.2,.sl v7 9 .str y.2,.inv 0 eF]) (kj xs) k undef (0,[]) (fun _=>rfl) h (SE.fin [1,0,2,3] ⟨rfl,rfl,rfl,rfl,rfl,rfl,rfl,rfl,trivial⟩ rfl) (fun n2 v q h=>?_)
  unfold kj at h;refine sr (jb (bz rfl) ?_);refine nt (ah (bB rfl (fun hb=>?_) (fun hb=>?_)))
  ·replace h:=cm (l5 hb) h;refine sk (ah (aj ?_));obtain⟨c,ec,h⟩:=ab h;refine sr (jb (aL (t:=.int .i64) rfl fY ND ec) ?_);refine ja (ao (t:=.int .i64) rfl ND rfl) ?_;refine aq (nt ?_)
   have hk:0≤kG c∧kG c≤127∧bV (q.2.length+1):=by
    apply Classical.byContradiction;intro hn;rw [if_neg hn] at h;cases h
   replace h:=cm hk h;refine uK 1 rfl fun hv=>?_;refine aa (mq ?_);refine ja (nP rfl U3 Rx) ?_;refine jb (Au rfl) ?_;refine bH (Δ:=[_,_]) (F:=_) (fun _ _ _=>au rfl _) rfl rfl (ar [.tmp 10,.tmp 33] rfl rfl LY rfl (wB (b:=b) (p:=M8 b q.2) (v:=P3 q.2 v) (l:=q.2) (r:=kG c) (MB b q.2) hv hk.1 hk.2.1 hk.2.2)) ⟨rfl,rfl,trivial⟩ fun v2=>?_;refine ak (aG (tn (aa ?_)));obtain⟨z3,ez3,h⟩:=ab h;refine jb (bh rfl ez3) ?_;refine mq (nl ?_);exact gP (v2,(z3,q.2++[kG c])) h (SE.fin [0,1,2,3] ⟨rfl,rfl,rfl,rfl,rfl,rfl,rfl,rfl,trivial⟩ (by simp only [Hh,Hg];rfl))
  replace h:=bD (lu hb) h;refine dD (aN (aN (bU (tn ?_))));replace h:(if bV (y.2.length+1) then(ck (y.1+1)).bind fun z=>iQ k a1 n (z,y.2++[pK q.2]) else none).bind _=some r:=h
  have hk:bV (y.2.length+1):=by
   apply Classical.byContradiction;intro hn;rw [if_neg hn] at h;cases h
  replace h:=cm hk h;refine aa (mq ?_);refine bH (Δ:=[_,_]) (F:=_) (fun _ _ _=>au rfl _) rfl rfl (ar [.tmp 10] rfl rfl GX rfl (vp (b:=b) (l:=q.2) (fun hn=>by rw [hn];rfl))) ⟨rfl,trivial⟩ fun _=>?_;refine ja (bu (t:=.str) [(.tmp 37,.eq (.string (pK q.2)))] [pK q.2] rfl rfl J8 (.cons rfl .str .nil) rfl rfl) ?_;refine dS rfl rfl rfl (ct rfl rfl J8 (by simpa using hk)) ⟨rfl,rfl,trivial⟩ fun v'=>?_;refine aq (ak (aG (tn (aa ?_))));obtain⟨z3,ez3,h⟩:=ab h;refine jb (bh rfl ez3) ?_;refine mq (nl ?_);exact jz (v',(z3,y.2++[pK q.2])) h [0,1]
 replace h:=bD (lu hb) h
 refine dD ?_
 refine aN ?_
 refine aN ?_
 refine bU ?_
 refine tn ?_
 replace h:((tf k y.2 ⟨#[47]⟩).bind fun r=>some (.string r,0)).bind some=some r:=h
 obtain⟨r1,j,h⟩:=ab h
 cases h
 have cj:=Aa k y.2 _ r1 j
 refine sr ?_
 refine co (fM [7] ⟨rfl,trivial⟩) ?_
 refine mq ?_
 refine jb (ar [.tmp 41,.const (.string ⟨#[47]⟩)] rfl rfl LX rfl cj) ?_
 refine aq ?_
 refine cq ?_
 refine nt ?_
 refine aB ?_
 exact aJ () [_,_] 1 ⟨rfl,rfl,trivial⟩ rfl
def jq(k:Nat):Option Bool:=
 (jR k ([]:(List Int))).bind fun r1=>
 (vI k).bind fun r2=>
 (wx k r1 r2 1).bind fun r3=>
 (jR k ([]:(List Int))).bind fun r4=>
 (vI k).bind fun r5=>
 (jj k r4 r5).bind fun r6=>
 (jR k ([]:(List Int))).bind fun r7=>
 (kL k r7).bind fun r8=>
 (jR k ([]:(List Int))).bind fun r9=>
 (Gk k).bind fun E=>
 (tG k r9 E).bind fun c=>
 (jR k ([]:(List Int))).bind fun D=>
 (vI k).bind fun y=>
 (pJ k D y 0 1).bind fun h=>
 (jR k ([]:(List Int))).bind fun x=>
 (vI k).bind fun u=>
 (rO k x u).bind fun e=>
 ((if r3.2.2=0 then(if r6.2=0 then(if r8.2.2=0 then(if c.2.2.2=0 then(if h.2.2=0 then(if e.2=0 then(if r6.1=3 then(if r8.2.1=0 then(if c.1=0 then(if c.2.1=2 then(if c.2.2.1=1 then(if h.2.1=2 then((d3 (Kw e.1=true)).bind fun _=>
 if GU e.1 (⟨#[98,97,100,47,99]⟩:ByteArray)=true then((dZ k r3.1 [0]).bind fun s=>
 if s=true then((ft k r3.2.1 [[0,1,3],[2]]).bind fun r=>
 if r=true then((ft k r8.1 [[2,0],[1,3]]).bind fun n=>
 if n=true then((dZ k h.1 [0,1,3]).bind fun l=>
 some l) else(some false)) else(some false)) else(some false)) else(some false)) else(some false)) else(some false)) else(some false)) else(some false)) else(some false)) else(some false)) else(some false)) else(some false)) else(some false)) else(some false)) else(some false)) else(some false)):Option (Bool)).bind fun j=>
 some j
theorem pC(k:Nat)(r:Bool)(h:jq k=some r):
 c6 (hQ Tryz.prog) 25 [] [.inv 0 (eF)] (fun _:Unit=>(bv [.eq (.bool r)],[.inv 0 (eF)])):=by
 unfold jq at h
 replace h:=ba h
 refine c6.of 132 Tryz.func25 rfl Tryz.ntmps25 rfl fun S w0=>?_
 refine sr ?_
 refine cq ?_
 refine nt ?_
 refine sr ?_
 obtain⟨r1,RY,h⟩:=ab h
 have Sr:=iJ k ([]:(List Int)) r1 RY
 refine ja (dt (N:=[(.const (.slice none 0 0),.eq (.slice none 0 0))]) (ar [.const (.slice none 0 0)] rfl rfl DX rfl Sr) fun _ _ _ hn=>⟨(jA (t:=(.slice (.int .i64))) (x:=([]:(List Int))) .nil rfl rfl hn.1),trivial⟩) ?_
 obtain⟨r2,RX,h⟩:=ab h
 have Sm:=qW k r2 RX
 refine aA rfl (ar [] rfl rfl Jf rfl Sm) trivial ?_
 obtain⟨r3,RV,h⟩:=ab h
 have Sl:=zW k r1 r2 1 r3 RV
 refine kc (ar [.tmp 19,.tmp 20,.const (.int .i64 (1))] rfl rfl QU rfl Sl) ?_
 refine mq ?_
 refine xr ?_
 refine xr ?_
 refine xr ?_
 refine aq ?_
 refine aq ?_
 refine aq ?_
 refine nt ?_
 refine sr ?_
 obtain⟨r4,RU,h⟩:=ab h
 have Sj:=iJ k ([]:(List Int)) r4 RU
 refine ja (dt (N:=[(.const (.slice none 0 0),.eq (.slice none 0 0))]) (ar [.const (.slice none 0 0)] rfl rfl DX rfl Sj) fun _ _ _ hn=>⟨(jA (t:=(.slice (.int .i64))) (x:=([]:(List Int))) .nil rfl rfl hn.1),trivial⟩) ?_
 obtain⟨r5,RS,h⟩:=ab h
 have Si:=qW k r5 RS
 refine aA rfl (ar [] rfl rfl Jf rfl Si) trivial ?_
 obtain⟨r6,RR,h⟩:=ab h
 have R9:=mR k r4 r5 r6 RR
 refine kb (dN [.tmp 26,.tmp 27] rfl rfl OP rfl R9) ?_
 refine mq ?_
 refine xr ?_
 refine xr ?_
 refine aq ?_
 refine aq ?_
 refine nt ?_
 refine sr ?_
 obtain⟨r7,RQ,h⟩:=ab h
 have R7:=iJ k ([]:(List Int)) r7 RQ
 refine ja (dt (N:=[(.const (.slice none 0 0),.eq (.slice none 0 0))]) (ar [.const (.slice none 0 0)] rfl rfl DX rfl R7) fun _ _ _ hn=>⟨(jA (t:=(.slice (.int .i64))) (x:=([]:(List Int))) .nil rfl rfl hn.1),trivial⟩) ?_
 obtain⟨r8,RP,h⟩:=ab h
 have R2:=nI k r7 r8 RP
 refine ja (dN [.tmp 32] rfl rfl L0 rfl R2) ?_
 refine mq ?_
 refine xr ?_
 refine xr ?_
 refine xr ?_
 refine aq ?_
 refine aq ?_
 refine aq ?_
 refine nt ?_
 refine sr ?_
 obtain⟨r9,RO,h⟩:=ab h
 have RZ:=iJ k ([]:(List Int)) r9 RO
 refine ja (dt (N:=[(.const (.slice none 0 0),.eq (.slice none 0 0))]) (ar [.const (.slice none 0 0)] rfl rfl DX rfl RZ) fun _ _ _ hn=>⟨(jA (t:=(.slice (.int .i64))) (x:=([]:(List Int))) .nil rfl rfl hn.1),trivial⟩) ?_
 obtain⟨E,qt,h⟩:=ab h
 have RG:=Gj k E qt
 refine aA rfl (ar [] rfl rfl QJ rfl RG) trivial ?_
 obtain⟨RN,pp,h⟩:=ab h
 have RF:=xZ k r9 E RN pp
 refine kb (dN [.tmp 38,.tmp 39] rfl rfl QT rfl RF) ?_
 refine mq ?_
 refine xr ?_
 refine xr ?_
 refine xr ?_
 refine xr ?_
 refine aq ?_
 refine aq ?_
 refine aq ?_
 refine aq ?_
 refine nt ?_
 refine sr ?_
 obtain⟨D,mc,h⟩:=ab h
 have RE:=iJ k ([]:(List Int)) D mc
 refine ja (dt (N:=[(.const (.slice none 0 0),.eq (.slice none 0 0))]) (ar [.const (.slice none 0 0)] rfl rfl DX rfl RE) fun _ _ _ hn=>⟨(jA (t:=(.slice (.int .i64))) (x:=([]:(List Int))) .nil rfl rfl hn.1),trivial⟩) ?_
 obtain⟨y,ac,h⟩:=ab h
 have RD:=qW k y ac
 refine aA rfl (ar [] rfl rfl Jf rfl RD) trivial ?_
 obtain⟨u,Y,h⟩:=ab h
 have RB:=uQ k D y 0 1 u Y
 refine bT rfl rfl rfl (dN [.tmp 46,.tmp 47,.const (.int .i64 (0)),.const (.int .i64 (1))] rfl rfl QR rfl RB) ⟨rfl,rfl,rfl,rfl,trivial⟩ ?_
 refine mq ?_
 refine xr ?_
 refine xr ?_
 refine xr ?_
 refine aq ?_
 refine aq ?_
 refine aq ?_
 refine nt ?_
 refine sr ?_
 obtain⟨n,X,h⟩:=ab h
 have RA:=iJ k ([]:(List Int)) n X
 refine ja (dt (N:=[(.const (.slice none 0 0),.eq (.slice none 0 0))]) (ar [.const (.slice none 0 0)] rfl rfl DX rfl RA) fun _ _ _ hn=>⟨(jA (t:=(.slice (.int .i64))) (x:=([]:(List Int))) .nil rfl rfl hn.1),trivial⟩) ?_
 obtain⟨l,U,h⟩:=ab h
 have Rz:=qW k l U
 refine aA rfl (ar [] rfl rfl Jf rfl Rz) trivial ?_
 obtain⟨RL,Q,h⟩:=ab h
 have se:=wv k n l RL Q
 refine kb (ar [.tmp 53,.tmp 54] rfl rfl QK rfl se) ?_
 refine mq ?_
 refine xr ?_
 refine xr ?_
 refine aq ?_
 refine aq ?_
 refine nt ?_
 refine aK (Z:=Unit) (α:=Bool) (fun e c=>[(0,.eq (.bool c))]) (fun e c=>[.inv 0 (eF)]) h (fun K h=>?_) (fun e c h=>?_)
 ·
  refine aa (mq ?_);refine jb (de rfl) ?_;refine mq ?_;refine bG (s:=60) rfl (fun hb=>?_) (fun hb=>?_)
  ·replace h:=cm (l5 hb) h;refine gm ?_;refine gb (de rfl) ?_;refine pt ?_;refine mq ?_;refine bG (s:=64) rfl (fun hb=>?_) (fun hb=>?_)
   ·replace h:=cm (l5 hb) h;refine gm ?_;refine gb (de rfl) ?_;refine pt ?_;refine mq ?_;refine bG (s:=68) rfl (fun hb=>?_) (fun hb=>?_)
    ·replace h:=cm (l5 hb) h;refine gm ?_;refine gb (de rfl) ?_;refine pt ?_;refine mq ?_;refine bG (s:=72) rfl (fun hb=>?_) (fun hb=>?_)
     ·replace h:=cm (l5 hb) h;refine gm ?_;refine gb (de rfl) ?_;refine pt ?_;refine mq ?_;refine bG (s:=76) rfl (fun hb=>?_) (fun hb=>?_)
      ·replace h:=cm (l5 hb) h;refine gm ?_;refine gb (de rfl) ?_;refine pt ?_;refine mq ?_;refine bG (s:=80) rfl (fun hb=>?_) (fun hb=>?_)
       ·replace h:=cm (l5 hb) h;refine gm ?_;refine gb (de rfl) ?_;refine pt ?_;refine mq ?_;refine bG (s:=84) rfl (fun hb=>?_) (fun hb=>?_)
        ·replace h:=cm (l5 hb) h;refine gm ?_;refine gb (de rfl) ?_;refine pt ?_;refine mq ?_;refine bG (s:=88) rfl (fun hb=>?_) (fun hb=>?_)
         ·replace h:=cm (l5 hb) h;refine gm ?_;refine gb (de rfl) ?_;refine pt ?_;refine mq ?_;refine bG (s:=92) rfl (fun hb=>?_) (fun hb=>?_)
          ·replace h:=cm (l5 hb) h;refine gm ?_;refine gb (de rfl) ?_;refine pt ?_;refine mq ?_;refine bG (s:=96) rfl (fun hb=>?_) (fun hb=>?_)
           ·replace h:=cm (l5 hb) h;refine gm ?_;refine gb (de rfl) ?_;refine pt ?_;refine mq ?_;refine bG (s:=100) rfl (fun hb=>?_) (fun hb=>?_)
            ·replace h:=cm (l5 hb) h;refine gm ?_;refine gb (de rfl) ?_;refine pt ?_;refine mq ?_;refine bG (s:=104) rfl (fun hb=>?_) (fun hb=>?_)
             ·replace h:=cm (l5 hb) h;refine gm ?_;obtain⟨Ss,F,h⟩:=ab h;refine gb (Fv rfl (aC F)) ?_;refine pt ?_;refine mq ?_;refine bG (s:=108) rfl (fun hb=>?_) (fun hb=>?_)
              ·replace h:=cm (zS hb) h;refine gm ?_;refine ga (bu (t:=(.int .i64)) [(.const (.int .i64 (0)),_)] [0] rfl rfl fp (.cons rfl .int .nil) rfl rfl) ?_;obtain⟨RJ,O,h⟩:=ab h;refine gb (ar [.tmp 109,.tmp 110] rfl rfl Jg rfl (iz k r3.1 [0] RJ O)) ?_;refine pt ?_;refine mq ?_;refine bG (s:=113) rfl (fun hb=>?_) (fun hb=>?_)
               ·replace h:=cm (zS hb) h;refine gm ?_;refine gc (bu (t:=(.int .i64)) [(.const (.int .i64 (0)),_),(.const (.int .i64 (1)),_),(.const (.int .i64 (3)),_)] [0,1,3] rfl rfl fp (.cons rfl .int (.cons rfl .int (.cons rfl .int .nil))) rfl rfl) ?_;refine ga (bu (t:=(.int .i64)) [(.const (.int .i64 (2)),_)] [2] rfl rfl fp (.cons rfl .int .nil) rfl rfl) ?_;refine gb (bu (t:=(.slice (.int .i64))) [(.tmp 115,_),(.tmp 116,_)] [[0,1,3],[2]] rfl rfl pr (.cons rfl .rep (.cons rfl .rep .nil)) rfl rfl) ?_;obtain⟨RI,M,h⟩:=ab h;refine gb (ar [.tmp 114,.tmp 117] rfl rfl L2 rfl (ju k r3.2.1 [[0,1,3],[2]] RI M)) ?_;refine pt ?_;refine mq ?_;refine bG (s:=120) rfl (fun hb=>?_) (fun hb=>?_)
                ·replace h:=cm (zS hb) h;refine gm ?_;refine gb (bu (t:=(.int .i64)) [(.const (.int .i64 (2)),_),(.const (.int .i64 (0)),_)] [2,0] rfl rfl fp (.cons rfl .int (.cons rfl .int .nil)) rfl rfl) ?_;refine gb (bu (t:=(.int .i64)) [(.const (.int .i64 (1)),_),(.const (.int .i64 (3)),_)] [1,3] rfl rfl fp (.cons rfl .int (.cons rfl .int .nil)) rfl rfl) ?_;refine gb (bu (t:=(.slice (.int .i64))) [(.tmp 122,_),(.tmp 123,_)] [[2,0],[1,3]] rfl rfl pr (.cons rfl .rep (.cons rfl .rep .nil)) rfl rfl) ?_;obtain⟨RH,J,h⟩:=ab h;refine gb (ar [.tmp 121,.tmp 124] rfl rfl L2 rfl (ju k r8.1 [[2,0],[1,3]] RH J)) ?_;refine pt ?_;refine mq ?_;refine bG (s:=127) rfl (fun hb=>?_) (fun hb=>?_)
                 ·replace h:=cm (zS hb) h;refine gm ?_;refine gc (bu (t:=(.int .i64)) [(.const (.int .i64 (0)),_),(.const (.int .i64 (1)),_),(.const (.int .i64 (3)),_)] [0,1,3] rfl rfl fp (.cons rfl .int (.cons rfl .int (.cons rfl .int .nil))) rfl rfl) ?_;obtain⟨j,I,h⟩:=ab h;refine gb (ar [.tmp 128,.tmp 129] rfl rfl Jg rfl (iz k u.1 [0,1,3] j I)) ?_;refine pt ?_;refine aq (nl ?_);exact jz ((),j) h [0]
                 ·replace h:=bD (zT hb) h;iterate 3 refine gn ?_
                  refine pf ?_;refine aq (nl ?_);exact jz ((),false) h [0]
                ·replace h:=bD (zT hb) h;iterate 5 refine gn ?_
                 refine pf ?_;refine mq ?_;iterate 3 refine gn ?_
                 refine pf ?_;refine aq (nl ?_);exact jz ((),false) h [0]
               ·replace h:=bD (zT hb) h;iterate 5 refine gn ?_
                refine pf ?_;refine mq ?_;iterate 5 refine gn ?_
                refine pf ?_;refine mq ?_;iterate 3 refine gn ?_
                refine pf ?_;refine aq (nl ?_);exact jz ((),false) h [0]
              ·replace h:=bD (zT hb) h;iterate 3 refine gn ?_
               refine pf ?_;refine mq ?_;iterate 5 refine gn ?_
               refine pf ?_;refine mq ?_;iterate 5 refine gn ?_
               refine pf ?_;refine mq ?_;iterate 3 refine gn ?_
               refine pf ?_;refine aq (nl ?_);exact jz ((),false) h [0]
             ·replace h:=bD (lu hb) h;iterate 2 refine gn ?_
              refine pf ?_;refine mq ?_;iterate 3 refine gn ?_
              refine pf ?_;refine mq ?_;iterate 5 refine gn ?_
              refine pf ?_;refine mq ?_;iterate 5 refine gn ?_
              refine pf ?_;refine mq ?_;iterate 3 refine gn ?_
              refine pf ?_;refine aq (nl ?_);exact jz ((),false) h [0]
            ·replace h:=bD (lu hb) h;iterate 2 refine gn ?_
             refine pf ?_;refine mq ?_;iterate 2 refine gn ?_
             refine pf ?_;refine mq ?_;iterate 3 refine gn ?_
             refine pf ?_;refine mq ?_;iterate 5 refine gn ?_
             refine pf ?_;refine mq ?_;iterate 5 refine gn ?_
             refine pf ?_;refine mq ?_;iterate 3 refine gn ?_
             refine pf ?_;refine aq (nl ?_);exact jz ((),false) h [0]
           ·replace h:=bD (lu hb) h;iterate 2 refine gn ?_
            refine pf ?_;refine mq ?_;iterate 2 refine gn ?_
            refine pf ?_;refine mq ?_;iterate 2 refine gn ?_
            refine pf ?_;refine mq ?_;iterate 3 refine gn ?_
            refine pf ?_;refine mq ?_;iterate 5 refine gn ?_
            refine pf ?_;refine mq ?_;iterate 5 refine gn ?_
            refine pf ?_;refine mq ?_;iterate 3 refine gn ?_
            refine pf ?_;refine aq (nl ?_);exact jz ((),false) h [0]
          ·replace h:=bD (lu hb) h;iterate 2 refine gn ?_
           refine pf ?_;refine mq ?_;iterate 2 refine gn ?_
           refine pf ?_;refine mq ?_;iterate 2 refine gn ?_
           refine pf ?_;refine mq ?_;iterate 2 refine gn ?_
           refine pf ?_;refine mq ?_;iterate 3 refine gn ?_
           refine pf ?_;refine mq ?_;iterate 5 refine gn ?_
           refine pf ?_;refine mq ?_;iterate 5 refine gn ?_
           refine pf ?_;refine mq ?_;iterate 3 refine gn ?_
           refine pf ?_;refine aq (nl ?_);exact jz ((),false) h [0]
         ·replace h:=bD (lu hb) h;iterate 2 refine gn ?_
          refine pf ?_;refine mq ?_;iterate 2 refine gn ?_
          refine pf ?_;refine mq ?_;iterate 2 refine gn ?_
          refine pf ?_;refine mq ?_;iterate 2 refine gn ?_
          refine pf ?_;refine mq ?_;iterate 2 refine gn ?_
          refine pf ?_;refine mq ?_;iterate 3 refine gn ?_
          refine pf ?_;refine mq ?_;iterate 5 refine gn ?_
          refine pf ?_;refine mq ?_;iterate 5 refine gn ?_
          refine pf ?_;refine mq ?_;iterate 3 refine gn ?_
          refine pf ?_;refine aq (nl ?_);exact jz ((),false) h [0]
        ·replace h:=bD (lu hb) h;iterate 2 refine gn ?_
         refine pf ?_;refine mq ?_;iterate 2 refine gn ?_
         refine pf ?_;refine mq ?_;iterate 2 refine gn ?_
         refine pf ?_;refine mq ?_;iterate 2 refine gn ?_
         refine pf ?_;refine mq ?_;iterate 2 refine gn ?_
         refine pf ?_;refine mq ?_;iterate 2 refine gn ?_
         refine pf ?_;refine mq ?_;iterate 3 refine gn ?_
         refine pf ?_;refine mq ?_;iterate 5 refine gn ?_
         refine pf ?_;refine mq ?_;iterate 5 refine gn ?_
         refine pf ?_;refine mq ?_;iterate 3 refine gn ?_
         refine pf ?_;refine aq (nl ?_);exact jz ((),false) h [0]
       ·replace h:=bD (lu hb) h;iterate 2 refine gn ?_
        refine pf ?_;refine mq ?_;iterate 2 refine gn ?_
        refine pf ?_;refine mq ?_;iterate 2 refine gn ?_
        refine pf ?_;refine mq ?_;iterate 2 refine gn ?_
        refine pf ?_;refine mq ?_;iterate 2 refine gn ?_
        refine pf ?_;refine mq ?_;iterate 2 refine gn ?_
        refine pf ?_;refine mq ?_;iterate 2 refine gn ?_
        refine pf ?_;refine mq ?_;iterate 3 refine gn ?_
        refine pf ?_;refine mq ?_;iterate 5 refine gn ?_
        refine pf ?_;refine mq ?_;iterate 5 refine gn ?_
        refine pf ?_;refine mq ?_;iterate 3 refine gn ?_
        refine pf ?_;refine aq (nl ?_);exact jz ((),false) h [0]
      ·replace h:=bD (lu hb) h;iterate 2 refine gn ?_
       refine pf ?_;refine mq ?_;iterate 2 refine gn ?_
       refine pf ?_;refine mq ?_;iterate 2 refine gn ?_
       refine pf ?_;refine mq ?_;iterate 2 refine gn ?_
       refine pf ?_;refine mq ?_;iterate 2 refine gn ?_
       refine pf ?_;refine mq ?_;iterate 2 refine gn ?_
       refine pf ?_;refine mq ?_;iterate 2 refine gn ?_
       refine pf ?_;refine mq ?_;iterate 2 refine gn ?_
       refine pf ?_;refine mq ?_;iterate 3 refine gn ?_
       refine pf ?_;refine mq ?_;iterate 5 refine gn ?_
       refine pf ?_;refine mq ?_;iterate 5 refine gn ?_
       refine pf ?_;refine mq ?_;iterate 3 refine gn ?_
       refine pf ?_;refine aq (nl ?_);exact jz ((),false) h [0]
     ·replace h:=bD (lu hb) h;iterate 2 refine gn ?_
      refine pf ?_;refine mq ?_;iterate 2 refine gn ?_
      refine pf ?_;refine mq ?_;iterate 2 refine gn ?_
      refine pf ?_;refine mq ?_;iterate 2 refine gn ?_
      refine pf ?_;refine mq ?_;iterate 2 refine gn ?_
      refine pf ?_;refine mq ?_;iterate 2 refine gn ?_
      refine pf ?_;refine mq ?_;iterate 2 refine gn ?_
      refine pf ?_;refine mq ?_;iterate 2 refine gn ?_
      refine pf ?_;refine mq ?_;iterate 2 refine gn ?_
      refine pf ?_;refine mq ?_;iterate 3 refine gn ?_
      refine pf ?_;refine mq ?_;iterate 5 refine gn ?_
      refine pf ?_;refine mq ?_;iterate 5 refine gn ?_
      refine pf ?_;refine mq ?_;iterate 3 refine gn ?_
      refine pf ?_;refine aq (nl ?_);exact jz ((),false) h [0]
    ·replace h:=bD (lu hb) h;iterate 2 refine gn ?_
     refine pf ?_;refine mq ?_;iterate 2 refine gn ?_
     refine pf ?_;refine mq ?_;iterate 2 refine gn ?_
     refine pf ?_;refine mq ?_;iterate 2 refine gn ?_
     refine pf ?_;refine mq ?_;iterate 2 refine gn ?_
     refine pf ?_;refine mq ?_;iterate 2 refine gn ?_
     refine pf ?_;refine mq ?_;iterate 2 refine gn ?_
     refine pf ?_;refine mq ?_;iterate 2 refine gn ?_
     refine pf ?_;refine mq ?_;iterate 2 refine gn ?_
     refine pf ?_;refine mq ?_;iterate 2 refine gn ?_
     refine pf ?_;refine mq ?_;iterate 3 refine gn ?_
     refine pf ?_;refine mq ?_;iterate 5 refine gn ?_
     refine pf ?_;refine mq ?_;iterate 5 refine gn ?_
     refine pf ?_;refine mq ?_;iterate 3 refine gn ?_
     refine pf ?_;refine aq (nl ?_);exact jz ((),false) h [0]
   ·replace h:=bD (lu hb) h;iterate 2 refine gn ?_
    refine pf ?_;refine mq ?_;iterate 2 refine gn ?_
    refine pf ?_;refine mq ?_;iterate 2 refine gn ?_
    refine pf ?_;refine mq ?_;iterate 2 refine gn ?_
    refine pf ?_;refine mq ?_;iterate 2 refine gn ?_
    refine pf ?_;refine mq ?_;iterate 2 refine gn ?_
    refine pf ?_;refine mq ?_;iterate 2 refine gn ?_
    refine pf ?_;refine mq ?_;iterate 2 refine gn ?_
    refine pf ?_;refine mq ?_;iterate 2 refine gn ?_
    refine pf ?_;refine mq ?_;iterate 2 refine gn ?_
    refine pf ?_;refine mq ?_;iterate 2 refine gn ?_
    refine pf ?_;refine mq ?_;iterate 3 refine gn ?_
    refine pf ?_;refine mq ?_;iterate 5 refine gn ?_
    refine pf ?_;refine mq ?_;iterate 5 refine gn ?_
    refine pf ?_;refine mq ?_;iterate 3 refine gn ?_
    refine pf ?_;refine aq (nl ?_);exact jz ((),false) h [0]
  ·replace h:=bD (lu hb) h;iterate 2 refine gn ?_
   refine pf ?_;refine mq ?_;iterate 2 refine gn ?_
   refine pf ?_;refine mq ?_;iterate 2 refine gn ?_
   refine pf ?_;refine mq ?_;iterate 2 refine gn ?_
   refine pf ?_;refine mq ?_;iterate 2 refine gn ?_
   refine pf ?_;refine mq ?_;iterate 2 refine gn ?_
   refine pf ?_;refine mq ?_;iterate 2 refine gn ?_
   refine pf ?_;refine mq ?_;iterate 2 refine gn ?_
   refine pf ?_;refine mq ?_;iterate 2 refine gn ?_
   refine pf ?_;refine mq ?_;iterate 2 refine gn ?_
   refine pf ?_;refine mq ?_;iterate 2 refine gn ?_
   refine pf ?_;refine mq ?_;iterate 2 refine gn ?_
   refine pf ?_;refine mq ?_;iterate 3 refine gn ?_
   refine pf ?_;refine mq ?_;iterate 5 refine gn ?_
   refine pf ?_;refine mq ?_;iterate 5 refine gn ?_
   refine pf ?_;refine mq ?_;iterate 3 refine gn ?_
   refine pf ?_;refine aq (nl ?_);exact jz ((),false) h [0]
 ·
  refine aB ?_;cases h;exact aJ () [_] 1 ⟨rfl,trivial⟩ rfl
def mo(k:Nat)(a0:bR):Option (Int×Int):=
 (kL k a0).bind fun r2=>
 if¬(r2.2.2=0) then(some (0,r2.2.2)) else((dj k (kN (fun(y8:Int) (j:(List (List Int)))=>
  (bm k a0 j).bind fun h=>
  if h=r2.2.1 then((ck (y8+1)).bind fun e=>
  some (e,true)) else(some (y8,true)))) (a0,()) (0,false)).bind fun c=>
 if c.2=true then(none) else(some (c.1,0)))
theorem wy(k:Nat)(a0:bR)(r:Int×Int)(h:mo k a0=some r):
 c6 (hQ Tryz.prog) 58 [.rep aI a0] [] (fun _:Unit=>(bv [I r.1,I r.2],[])):=by
 unfold mo at h
 replace h:=ba h
 refine zG 32 Tryz.func58 rfl Tryz.ntmps58 rfl fun S w0=>?_
 refine sr ?_
 refine bx fun b1=>?_
 refine cq ?_
 refine cq ?_
 refine nt ?_
 refine sr ?_
 refine lo jk ?_
 obtain⟨r2,D,h⟩:=ab h
 have O:=nI k a0 r2 D
 refine ja (dN [.tmp 11] rfl rfl L0 rfl O) ?_
 refine mq ?_
 refine xr ?_
 refine xr ?_
 refine xr ?_
 refine aD rfl rfl rfl (bF rfl Q6 Rk) trivial fun b3=>?_
 refine aq ?_
 refine a8 rfl rfl (aW rfl dw rfl rfl rfl) ⟨rfl,rfl,trivial⟩ ?_
 refine aq ?_
 refine nt ?_
 refine ah ?_
 refine sr ?_
 refine mq ?_
 refine jb (iH rfl) ?_
 refine nt ?_
 refine cn h (fun h=>?_) (fun h=>?_)
 ·
  refine sr (mq ?_);refine cq ?_;refine aq (nt (rx ?_));refine HF ?_;cases h;exact rb
 ·
  refine sk (sr (fr 1 ?_));refine lo jk ?_;refine aD rfl rfl rfl (ar [.tmp 19] rfl rfl GY rfl (fD a0)) ⟨rfl,trivial⟩ fun z4=>?_;refine co (jD (bi k a0) kC) ?_;refine aD rfl rfl rfl (bF rfl J0 KN) trivial fun b5=>?_;refine aD rfl rfl rfl (bF rfl Q6 Rk) trivial fun b6=>?_;refine fr 1 ?_;refine a8 rfl rfl (aW rfl nk trivial rfl rfl) ⟨rfl,rfl,trivial⟩ ?_;refine fr 1 ?_;refine a8 rfl rfl (aW rfl dw rfl rfl rfl) ⟨rfl,rfl,trivial⟩ ?_;refine nt (ah (sr (fr 1 ?_)));refine lo nk ?_;refine aD rfl rfl rfl (dt (N:=[(.tmp 21,.at ap (a0,(.map (some z4))))]) (ar [.tmp 21] rfl rfl KE rfl (jN (a0,()))) fun _ _ _ hn=>⟨qk hn.1,trivial⟩) ⟨rfl,trivial⟩ fun b7=>?_;refine nt (aj (dV 5 rfl ?_));refine dV 5 rfl ?_;refine dV 5 rfl ?_;refine dV 5 rfl ?_;refine dV 5 rfl ?_;refine dV 5 rfl ?_;obtain⟨e,y,h⟩:=ab h;refine ko (Δ:=[.obj b7 102 (.at bj (a0,())),.obj b5 102 (.at ap (a0,(.map (some z4)))),.obj b6 3 (I 0),.inv z4 (bi k a0),.obj b1 25 (.rep aI a0),.obj b3 3 (I r2.2.1)]) (F:=[]) (X:=Unit) (J:=fun _=>Ek e.2) (E:=fun z9=>[.obj b7 102 (.at bj (a0,())),.obj b5 102 (.at ap (a0,(.map (some z4)))),.obj b6 3 (I e.1),.inv z4 (bi k a0),.obj b1 25 (.rep aI a0),.obj b3 3 (I r2.2.1)]) (r0:=fun _=>.tup .any) rfl rfl KC (fun rec hp ha hb hs hpe hN hv l=>?_) (fun dl z9=>mT (fun hj=>?_) (fun hj=>?_))
  ·rcases rec with⟨st0,pe0,fn0,tm0,ps0,as0,bd0,df0⟩;dsimp only at hp ha hb hs hpe hN hv;subst hp hs hpe;have vN:te tm0 [(5,Pt b3),(7,Pt b5),(8,Pt b6)]:=⟨congrArg A.eq (hv 5 _ rfl).symm,congrArg A.eq (hv 7 _ rfl).symm,congrArg A.eq (hv 8 _ rfl).symm,trivial⟩;refine c6.pick (M:=(hQ Tryz.prog)) [1,0,2,3,4,5,6] [1,0,2,3,4,5,6] (iO (fun(z9:Unit) (q:Int×Bool)=>[.raw l (.loop (ii ⟨.ready,none,fn0,tm0, #[23],as0,bd0,df0⟩ (Ek q.2))),.obj b5 102 (.at ap (a0,(.map (some z4)))),.obj b6 3 (I q.1),.inv z4 (bi k a0),.obj b1 25 (.rep aI a0),.obj b3 3 (I r2.2.1)]) l (kN (fun(y8:Int) (j:(List (List Int)))=>
   (bm k a0 j).bind fun c=>
   if c=r2.2.1 then((ck (y8+1)).bind fun n=>
   some (n,true)) else(some (y8,true)))) k (a0,()) b7 (fun z9 q p r' h=>?_) () (0,false) e y) rfl (fun _=>rfl) (fun _=>rfl)
   obtain⟨rq,hq,h2,rfl⟩:=mU h;obtain⟨y8,b5⟩:=q;obtain rfl:b5=false:=hq;replace h:=ba h2;obtain⟨j,hpv⟩:∃x,x=p:=⟨_,rfl⟩;subst hpv;refine YT.pick (R':=(fun z9:Unit=>(.eq (.bool rq.2),[.raw l (.loop (ii ⟨.ready,none,fn0,tm0, #[23],as0,bd0,df0⟩ (Ek (!rq.2)))),.obj b5 102 (.at ap (a0,(.map (some z4)))),.obj b6 3 (I rq.1),.inv z4 (bi k a0),.obj b1 25 (.rep aI a0),.obj b3 3 (I r2.2.1)]))) [0,1,2,3,4,5] [0,1,2,3,4,5] (A2 ha hb (N:=32) (Γ:=[(5,Pt b3),(7,Pt b5),(8,Pt b6)]) rfl hN (by decide) vN (fun S w=>?_)) rfl (fun _=>rfl) (fun _=>rfl);refine aa (aD rfl rfl rfl (bF rfl lx lS) trivial fun Q=>?_);refine a8 rfl rfl (aW rfl cN rfl rfl rfl) ⟨rfl,rfl,trivial⟩ ?_;refine nl (bO 1 rfl ?_);refine rC rfl rfl ?_;refine aj (ah (bZ ?_));refine ea 2 (an rfl nk mN rfl) ?_;refine ea 1 (an rfl cN (zK) rfl) ?_;obtain⟨c,u,h⟩:=ab h;refine eb 4 (dN [.tmp 24,.tmp 25] rfl rfl G0 rfl (gy k a0 z4 j c u)) ?_;refine ea 6 (an rfl dw mN rfl) ?_;refine df eU ?_;refine jb (de rfl) ?_;refine nt (ci h (fun h=>?_) (fun h=>?_))
   ·refine aa (fr 3 ?_);refine lo dw ?_;obtain⟨n,s,h⟩:=ab h;refine jb (bh rfl s) ?_;refine a8 rfl rfl (aW rfl dw rfl rfl rfl) ⟨rfl,rfl,trivial⟩ ?_;refine ak (aG (bO 6 rfl ?_));refine bO 6 rfl ?_;refine bO 6 rfl ?_;refine bO 3 rfl ?_;refine bO 6 rfl ?_;refine bO 5 rfl ?_;cases h;exact mK () 5 rfl
   ·refine aO (aG (bO 6 rfl ?_));refine bO 6 rfl ?_;refine bO 6 rfl ?_;refine bO 6 rfl ?_;refine bO 6 rfl ?_;refine bO 5 rfl ?_;cases h;exact mK () 5 rfl
  ·replace h:=bD (zT hj) h;refine aG (tn (sr (fr 3 ?_)));refine lo dw ?_;refine aq ?_;refine cq (nt (aB ?_));refine bO 1 rfl ?_;refine tw ?_;cases h;exact rb
  ·replace h:=cm (zS hj) h;cases h
def cI(k:Nat)(r7:(List (List Int)))(r8:(List (List Int)))(h:(List (List Int))×Int×Int×Int)(e:(List (List Int))×Int×Int×Int):Nat→(Bool×Int×(List (List Int)))→Option (Bool×(List (List Int)))
 |0,_=>none
 |n+1,c=>
  (a9 r7 h.2.2.2).bind fun M=>
  if c.2.1 < (M.length:Int) then(((if c.1=true then(if c.2.1=0 then(some (true,c.2.2)) else((a9 r8 e.2.2.2).bind fun J=>
  (a9 J c.2.1).bind fun I=>
  (a9 r8 e.2.2.2).bind fun F=>
  (ck (c.2.1 - 1)).bind fun E=>
  (a9 F E).bind fun D=>
  some (decide (D≤I),c.2.2))) else(some (false,c.2.2))):Option (Bool×(List (List Int)))).bind fun j=>
  (a9 r8 e.2.2.2).bind fun y=>
  (a9 y c.2.1).bind fun s=>
  (a9 j.2 s).bind fun r=>
  (a9 r7 h.2.2.2).bind fun x=>
  (a9 x c.2.1).bind fun l=>
  (d3 (bV (List.length r+List.length [l]))).bind fun _=>
  (ck (c.2.1+1)).bind fun u=>
  cI k r7 r8 h e n (j.1,u,List.set j.2 (Int.toNat s) (r++[l]))) else(some (c.1,c.2.2))
def cU(k:Nat)(r3:bR×cJ)(r7:(List (List Int)))(r8:(List (List Int)))(y:(List (List Int))×Int×Int×Int):Nat→((List (List Int))×Int×Int×Int)→Option (Except Bool ((List (List Int))×Int×Int))
 |0,_=>none
 |n+1,c=>
  if c.2.2.2 < (r8.length:Int) then(bE (α:=(List (List Int))×Int×Int) ((d3 (0≤(r3.1.2.2.length:Int)∧bV (Int.toNat (r3.1.2.2.length:Int)))).bind fun _=>
  ((cI k r7 r8 y c k (true,0,List.replicate (Int.toNat (r3.1.2.2.length:Int)) ([]:(List Int)))):Option (Bool×(List (List Int)))).bind fun s=>
  ((if¬(s.1=true) then(some (true,s.2)) else((cg k r3.1 s.2).bind fun I=>
  some (!decide (I=0),s.2))):Option (Bool×(List (List Int)))).bind fun r=>
  if r.1=true then(some (.ok (c.1,c.2.1,c.2.2.1))) else((jj k r3.1 r.2).bind fun j=>
  ((if¬(j.2=0) then(some (true,r.2)) else(some (decide (j.1 < 0),r.2))):Option (Bool×(List (List Int)))).bind fun u=>
  if u.1=true then(some (.error false)) else(((((if c.2.2.1=0 then(some (true,u.2)) else(some (decide (j.1 < c.2.1),u.2))):Option (Bool×(List (List Int)))).bind fun l=>
  if l.1=true then(some (l.2,j.1,0,l.2)) else(some (c.1,c.2.1,c.2.2.1,l.2))):Option ((List (List Int))×Int×Int×(List (List Int)))).bind fun h=>
  if j.1=h.2.1 then((ck (h.2.2.1+1)).bind fun D=>
  (fX k h.2.2.2 h.1).bind fun F=>
  if F=true then(some (.ok (h.2.2.2,h.2.1,D))) else(some (.ok (h.1,h.2.1,D)))) else(some (.ok (h.1,h.2.1,h.2.2.1)))))) (fun e=>some (.error e)) fun x=>
  (ck (c.2.2.2+1)).bind fun E=>
  cU k r3 r7 r8 y n (x.1,x.2.1,x.2.2,E)) else(some (.ok (c.1,c.2.1,c.2.2.1)))
def cV(k:Nat)(r3:bR×cJ)(r7:(List (List Int)))(r8:(List (List Int))):Nat→((List (List Int))×Int×Int×Int)→Option (Except Bool ((List (List Int))×Int×Int))
 |0,_=>none
 |n+1,c=>
  if c.2.2.2 < (r7.length:Int) then(bE (α:=(List (List Int))×Int×Int) (cU k r3 r7 r8 c k (c.1,c.2.1,c.2.2.1,0)) (fun e=>some (.error e)) fun h=>
  (ck (c.2.2.2+1)).bind fun j=>
  cV k r3 r7 r8 n (h.1,h.2.1,h.2.2,j)) else(some (.ok (c.1,c.2.1,c.2.2.1)))
def jI(k:Nat)(a0:(List Int)):Option Bool:=
 (lM k a0).bind fun r1=>
 (jt k (r1.1,r1.2.1,r1.2.2) 4 2).bind fun r3=>
 (kL k r3.1).bind fun r5=>
 (mo k r3.1).bind fun r6=>
 (nX k (r3.1.2.1.length:Int)).bind fun r7=>
 (jr k (r3.1.2.2.length:Int) (r3.1.2.1.length:Int)).bind fun r8=>
 bE (α:=(List (List Int))×Int×Int) (cV k r3 r7 r8 k ([],0,0,0)) (some) fun x9=>
 if x9.2.2=0 then(((if r5.2.2=11 then(if r6.2=r5.2.2 then(if(r5.1.length:Int)=0 then(if r5.2.1=0 then(if r6.1=0 then((jq k).bind fun l=>
 some l) else(some false)) else(some false)) else(some false)) else(some false)) else(some false)):Option (Bool)).bind fun e=>
 some e) else(((if r5.2.2=0 then(if r6.2=0 then(if r5.2.1=x9.2.1 then(if r6.1=x9.2.2 then((ft k r5.1 x9.1).bind fun j=>
 if j=true then((jq k).bind fun h=>
 some h) else(some false)) else(some false)) else(some false)) else(some false)) else(some false)):Option (Bool)).bind fun c=>
 some c)
theorem su(k:Nat)(a0:(List Int))(r:Bool)(h:jI k a0=some r):
 c6 (hQ Tryz.prog) 13 [Ri a0] [.inv 0 (eF)] (fun _:Unit=>(bv [.eq (.bool r)],[.inv 0 (eF)])):=by
 unfold jI at h
 replace h:=ba h
 refine c6.of 209 Tryz.func13 rfl Tryz.ntmps13 rfl fun S w0=>?_
 refine sr ?_
 refine cq ?_
 refine nt ?_
 refine sr ?_
 refine mq ?_
 obtain⟨r1,TO,h⟩:=ab h
 have TY:=uf k a0 r1 TO
 refine aD rfl rfl rfl (ar [.tmp 21] rfl rfl QV rfl TY) ⟨rfl,trivial⟩ fun b2=>?_
 obtain⟨r3,TN,h⟩:=ab h
 have TX:=vc k (r1.1,r1.2.1,r1.2.2) b2 4 2 r3 TN
 refine kc (ar [.tmp 22,.const (.int .i64 (4)),.const (.int .i64 (2))] rfl rfl QP rfl TX) ?_
 refine aD rfl rfl rfl (bF rfl CO Jy) trivial fun b4=>?_
 refine a8 rfl rfl (aW rfl jk rfl rfl rfl) ⟨rfl,rfl,trivial⟩ ?_
 refine nt ?_
 refine sr ?_
 refine lo jk ?_
 obtain⟨r5,TM,h⟩:=ab h
 have TU:=nI k r3.1 r5 TM
 refine ja (dN [.tmp 25] rfl rfl L0 rfl TU) ?_
 refine mq ?_
 refine xr ?_
 refine xr ?_
 refine xr ?_
 refine aq ?_
 refine aq ?_
 refine aq ?_
 refine nt ?_
 refine sr ?_
 refine lo jk ?_
 obtain⟨r6,TL,h⟩:=ab h
 have TS:=wy k r3.1 r6 TL
 refine ja (dN [.tmp 31] rfl rfl QN rfl TS) ?_
 refine mq ?_
 refine xr ?_
 refine xr ?_
 refine aq ?_
 refine aq ?_
 refine nt ?_
 refine sr ?_
 refine cq ?_
 refine nt ?_
 refine sr ?_
 refine cq ?_
 refine cq ?_
 refine nt ?_
 refine ah ?_
 refine bZ ?_
 refine da (ax rfl i7) ?_
 refine ea 0 (an rfl qE mN rfl) ?_
 refine da (jg rfl rfl zM) ?_
 obtain⟨r7,TK,h⟩:=ab h
 have TR:=yS k (r3.1.2.1.length:Int) r7 TK
 refine da (ar [.tmp 37] rfl rfl QM rfl TR) ?_
 refine da (ax rfl iZ) ?_
 refine ea 0 (an rfl cp mN rfl) ?_
 refine da (jg rfl rfl fY) ?_
 refine da (ax rfl i7) ?_
 refine ea 0 (an rfl qE mN rfl) ?_
 refine da (jg rfl rfl zM) ?_
 refine df eU ?_
 obtain⟨r8,TJ,h⟩:=ab h
 have TP:=pD k (r3.1.2.2.length:Int) (r3.1.2.1.length:Int) r8 TJ
 refine jb (ar [.tmp 41,.tmp 44] rfl rfl OO rfl TP) ?_
 refine aq ?_
 refine aq ?_
 refine nt ?_
 refine fj (Z:=Unit) (α:=(List (List Int))×Int×Int) (fun RU x9=>[(4,.rep (.slice (.slice (.int .i64))) r5.1),(5,I r5.2.1),(6,I r5.2.2),(7,I r6.1),(8,I r6.2),(9,.rep (.slice (.slice (.int .i64))) x9.1),(10,I x9.2.1),(11,I x9.2.2)]) (fun RU x9=>[.inv 0 (eF)]) (fun e=>e=r) h (fun e h=>Option.some.inj h) (fun K hR h=>?_) (fun RU x9 h=>?_)
 ·
  refine sr (cq (nt (aj ?_)));refine fP (l8 (t:=(.slice (.slice (.int .i64)))) (x:=[]) 9 rfl .nil rfl rfl) ?_;refine aH (Z:=Unit) (α:=(List (List Int))×Int×Int×Int) (fun RS l=>[(3,Pt b4),(4,.rep (.slice (.slice (.int .i64))) r5.1),(5,I r5.2.1),(6,I r5.2.2),(7,I r6.1),(8,I r6.2),(9,.rep (.slice (.slice (.int .i64))) l.1),(10,I l.2.1),(11,I l.2.2.1),(12,.rep (.slice (.slice (.int .i64))) r7),(13,.rep (.slice (.slice (.int .i64))) r8),(14,I l.2.2.2)]) (fun RS l=>[.obj b4 25 (.rep aI r3.1),.inv 0 (eF)]) (cV k r3 r7 r8) k () ([],0,0,0) (fun _=>rfl) h (SE.fin [0,2] ⟨rfl,rfl,rfl,rfl,rfl,rfl,rfl,rfl,rfl,rfl,rfl,rfl,trivial⟩ rfl) (fun n RS l h=>?_);unfold cV at h;refine ah (sr ?_);iterate 2 refine mq ?_
  refine ol lj ?_;refine jb (bz rfl) ?_;refine nt (ci h (fun h=>?_) (fun h=>?_))
  ·refine sk (fj (Z:=Unit) (α:=(List (List Int))×Int×Int) (fun RR RA=>[(3,Pt b4),(4,.rep (.slice (.slice (.int .i64))) r5.1),(5,I r5.2.1),(6,I r5.2.2),(7,I r6.1),(8,I r6.2),(9,.rep (.slice (.slice (.int .i64))) RA.1),(10,I RA.2.1),(11,I RA.2.2),(12,.rep (.slice (.slice (.int .i64))) r7),(13,.rep (.slice (.slice (.int .i64))) r8),(14,I l.2.2.2)]) (fun RR RA=>[.obj b4 25 (.rep aI r3.1),.inv 0 (eF)]) (fun e=>e=r) h (fun e h=>hR e h) (fun K hR h=>?_) (fun RR RA h=>?_))
   ·refine aj (sr (cq (nt (aj ?_))));refine aH (Z:=Unit) (α:=(List (List Int))×Int×Int×Int) (fun RQ c=>[(3,Pt b4),(4,.rep (.slice (.slice (.int .i64))) r5.1),(5,I r5.2.1),(6,I r5.2.2),(7,I r6.1),(8,I r6.2),(9,.rep (.slice (.slice (.int .i64))) c.1),(10,I c.2.1),(11,I c.2.2.1),(12,.rep (.slice (.slice (.int .i64))) r7),(13,.rep (.slice (.slice (.int .i64))) r8),(14,I l.2.2.2),(15,I c.2.2.2)]) (fun RQ c=>[.obj b4 25 (.rep aI r3.1),.inv 0 (eF)]) (cU k r3 r7 r8 l) k () (l.1,l.2.1,l.2.2.1,0) (fun _=>rfl) h (SE.fin [0,1] ⟨rfl,rfl,rfl,rfl,rfl,rfl,rfl,rfl,rfl,rfl,rfl,rfl,rfl,trivial⟩ rfl) (fun n RQ c h=>?_);unfold cU at h;refine ah (sr ?_);iterate 2 refine mq ?_
    refine ol lj ?_;refine jb (bz rfl) ?_;refine nt (ci h (fun h=>?_) (fun h=>?_))
    ·refine sk (fj (Z:=Unit) (α:=(List (List Int))×Int×Int) (fun RP Rz=>[(3,Pt b4),(4,.rep (.slice (.slice (.int .i64))) r5.1),(5,I r5.2.1),(6,I r5.2.2),(7,I r6.1),(8,I r6.2),(9,.rep (.slice (.slice (.int .i64))) Rz.1),(10,I Rz.2.1),(11,I Rz.2.2),(12,.rep (.slice (.slice (.int .i64))) r7),(13,.rep (.slice (.slice (.int .i64))) r8),(14,I l.2.2.2),(15,I c.2.2.2)]) (fun RP Rz=>[.obj b4 25 (.rep aI r3.1),.inv 0 (eF)]) (fun e=>e=r) h (fun e h=>hR e h) (fun K hR h=>?_) (fun RP Rz h=>?_))
     ·refine aj (sr (fl iZ ?_));refine lo cp ?_;refine ol fY ?_;obtain⟨UX,RH,h⟩:=ab h;refine aD rfl rfl rfl (Fg (t:=.val) (d:=.slice none 0 0) rfl pr Na (aC RH).1 (aC RH).2) ⟨rfl,rfl,trivial⟩ fun RX=>?_;refine co (Hv (F:=[.obj b4 25 (.rep aI r3.1),.inv 0 (eF)])) ?_;refine aq ?_;refine cq (nt ?_);refine aK (Z:=(Value×(Nat→Value))) (α:=Bool×(List (List Int))) (fun U pp=>[(3,Pt b4),(4,.rep (.slice (.slice (.int .i64))) r5.1),(5,I r5.2.1),(6,I r5.2.2),(7,I r6.1),(8,I r6.2),(9,.rep (.slice (.slice (.int .i64))) c.1),(10,I c.2.1),(11,I c.2.2.1),(12,.rep (.slice (.slice (.int .i64))) r7),(13,.rep (.slice (.slice (.int .i64))) r8),(14,I l.2.2.2),(15,I c.2.2.2),(16,.eq U.1),(17,.eq (.bool pp.1))]) (fun U pp=>[.obj b4 25 (.rep aI r3.1),.inv 0 (eF)]++eM 23 U pp.2) h (fun K h=>?_) (fun U pp h=>?_)
      ·refine sr (cq (nt (aj ?_)));refine aH (Z:=(Value×(Nat→Value))) (α:=Bool×Int×(List (List Int))) (fun J u=>[(3,Pt b4),(4,.rep (.slice (.slice (.int .i64))) r5.1),(5,I r5.2.1),(6,I r5.2.2),(7,I r6.1),(8,I r6.2),(9,.rep (.slice (.slice (.int .i64))) c.1),(10,I c.2.1),(11,I c.2.2.1),(12,.rep (.slice (.slice (.int .i64))) r7),(13,.rep (.slice (.slice (.int .i64))) r8),(14,I l.2.2.2),(15,I c.2.2.2),(16,.eq J.1),(17,.eq (.bool u.1)),(18,I u.2.1)]) (fun J u=>[.obj b4 25 (.rep aI r3.1),.inv 0 (eF)]++eM 23 J u.2.2) (cI k r7 r8 l c) k (RX,fun _=>.slice none 0 0) (true,0,List.replicate (Int.toNat (r3.1.2.2.length:Int)) ([]:(List Int))) (fun _=>rfl) h (aV [.obj b4 25 (.rep aI r3.1),.inv 0 (eF)] (eM 23 (RX,fun _=>.slice none 0 0) (List.replicate (Int.toNat (r3.1.2.2.length:Int)) ([]:(List Int)))) [0,1] ⟨rfl,rfl,rfl,rfl,rfl,rfl,rfl,rfl,rfl,rfl,rfl,rfl,rfl,rfl,rfl,rfl,trivial⟩ rfl) (fun n J u h=>?_);unfold cI at h;refine ah (sr ?_);iterate 3 refine mq ?_
       obtain⟨Uw,SY,h⟩:=ab h;refine jb (aL (t:=(.slice (.int .i64))) rfl lj cp SY) ?_;refine ja (ao (t:=(.slice (.int .i64))) rfl cp rfl) ?_;refine ol fY ?_;refine jb (bz rfl) ?_;refine nt (ci h (fun h=>?_) (fun h=>?_))
       ·refine sk (ah (aj (aK (Z:=(Value×(Nat→Value))) (α:=Bool×(List (List Int))) (fun j y=>[(3,Pt b4),(4,.rep (.slice (.slice (.int .i64))) r5.1),(5,I r5.2.1),(6,I r5.2.2),(7,I r6.1),(8,I r6.2),(9,.rep (.slice (.slice (.int .i64))) c.1),(10,I c.2.1),(11,I c.2.2.1),(12,.rep (.slice (.slice (.int .i64))) r7),(13,.rep (.slice (.slice (.int .i64))) r8),(14,I l.2.2.2),(15,I c.2.2.2),(16,.eq j.1),(17,.eq (.bool y.1)),(18,I u.2.1)]) (fun j y=>[.obj b4 25 (.rep aI r3.1),.inv 0 (eF)]++eM 23 j y.2) h (fun K h=>?_) (fun j y h=>?_))))
        ·refine bZ ?_;refine dm ?_;refine xC rfl rfl rfl (aZ rfl) ⟨rfl,trivial⟩ (fun hb=>?_) (fun hb=>?_)
         ·replace h:=cm (zS hb) h;refine bL rfl rfl rfl rfl rfl (aZ rfl) ⟨rfl,rfl,trivial⟩ ?_;refine bL rfl rfl rfl rfl rfl (de rfl) ⟨rfl,rfl,rfl,trivial⟩ ?_;refine HT rfl rfl rfl rfl rfl (aZ rfl) ⟨rfl,rfl,trivial⟩ (fun hb=>?_) (fun hb=>?_)
          ·replace h:=cm (l5 hb) h;iterate 15 refine dg ?_
           refine df eU ?_;refine gn ?_;refine gb (qO rfl) ?_;refine pt ?_;refine aq (nl ?_);exact gP (J,(true,u.2.2)) h (aV [.obj b4 25 (.rep aI r3.1),.inv 0 (eF)] (eM 23 J u.2.2) [0,1] ⟨rfl,rfl,rfl,rfl,rfl,rfl,rfl,rfl,rfl,rfl,rfl,rfl,rfl,rfl,rfl,rfl,trivial⟩ rfl)
          ·replace h:=bD (lu hb) h;refine bL rfl rfl rfl rfl rfl (aZ rfl) ⟨rfl,rfl,trivial⟩ ?_;refine bL rfl rfl rfl rfl rfl (aZ rfl) ⟨rfl,rfl,trivial⟩ ?_;obtain⟨Uu,SX,h⟩:=ab h;refine bL rfl rfl rfl rfl rfl (aL (t:=(.slice (.int .i64))) rfl lj cp SX) ⟨rfl,rfl,rfl,trivial⟩ ?_;refine bL rfl rfl rfl rfl rfl (ao (t:=(.slice (.int .i64))) rfl cp rfl) ⟨rfl,rfl,trivial⟩ ?_;refine bL rfl rfl rfl rfl rfl (aZ rfl) ⟨rfl,rfl,trivial⟩ ?_;obtain⟨Tn,SV,h⟩:=ab h;refine bL rfl rfl rfl rfl rfl (aL (t:=(.int .i64)) rfl fY dw SV) ⟨rfl,rfl,rfl,trivial⟩ ?_;refine bL rfl rfl rfl rfl rfl (ao (t:=(.int .i64)) rfl dw rfl) ⟨rfl,rfl,trivial⟩ ?_;refine bL rfl rfl rfl rfl rfl (aZ rfl) ⟨rfl,rfl,trivial⟩ ?_;refine bL rfl rfl rfl rfl rfl (aZ rfl) ⟨rfl,rfl,trivial⟩ ?_;obtain⟨Ut,SU,h⟩:=ab h;refine bL rfl rfl rfl rfl rfl (aL (t:=(.slice (.int .i64))) rfl lj cp SU) ⟨rfl,rfl,rfl,trivial⟩ ?_;refine bL rfl rfl rfl rfl rfl (ao (t:=(.slice (.int .i64))) rfl cp rfl) ⟨rfl,rfl,trivial⟩ ?_;refine bL rfl rfl rfl rfl rfl (aZ rfl) ⟨rfl,rfl,trivial⟩ ?_;obtain⟨Us,SS,h⟩:=ab h;refine bL rfl rfl rfl rfl rfl (gC rfl SS) ⟨rfl,rfl,rfl,trivial⟩ ?_;obtain⟨Tm,SR,h⟩:=ab h;refine bL rfl rfl rfl rfl rfl (aL (t:=(.int .i64)) rfl fY dw SR) ⟨rfl,rfl,rfl,trivial⟩ ?_;refine bL rfl rfl rfl rfl rfl (ao (t:=(.int .i64)) rfl dw rfl) ⟨rfl,rfl,trivial⟩ ?_;refine df eU ?_;refine gb (pA rfl) ?_;refine gb (qP rfl) ?_;refine pt ?_;refine aq (nl ?_);exact gP (J,(decide (Tm≤Tn),u.2.2)) h (aV [.obj b4 25 (.rep aI r3.1),.inv 0 (eF)] (eM 23 J u.2.2) [0,1] ⟨rfl,rfl,rfl,rfl,rfl,rfl,rfl,rfl,rfl,rfl,rfl,rfl,rfl,rfl,rfl,rfl,trivial⟩ rfl)
         ·replace h:=bD (zT hb) h;iterate 3 refine dg ?_
          refine du ?_;refine du ?_;refine du ?_;refine du ?_;refine du ?_;refine du ?_;refine du ?_;refine du ?_;refine du ?_;refine du ?_;refine du ?_;refine du ?_;refine du ?_;refine du ?_;refine du ?_;refine df eU ?_;refine gu ?_;refine gn ?_;refine pf ?_;refine aq (nl ?_);exact gP (J,(false,u.2.2)) h (aV [.obj b4 25 (.rep aI r3.1),.inv 0 (eF)] (eM 23 J u.2.2) [0,1] ⟨rfl,rfl,rfl,rfl,rfl,rfl,rfl,rfl,rfl,rfl,rfl,rfl,rfl,rfl,rfl,rfl,trivial⟩ rfl)
        ·obtain⟨Ur,RG,h⟩:=ab h;obtain⟨E,RF,h⟩:=ab h;obtain⟨mc,O,h⟩:=ab h;refine fP (we (pre:=[.obj b4 25 (.rep aI r3.1),.inv 0 (eF)]) (tp O).2) ?_;obtain⟨Up,SQ,h⟩:=ab h;obtain⟨ac,SO,h⟩:=ab h;obtain⟨UW,SZ,h⟩:=ab h;refine uL (Δ:=[.sl (j.2 (Int.toNat E)) 3 (.int .i64) mc,.sl j.1 23 .val (eV j.2 0 y.2),.obj b4 25 (.rep aI r3.1),.inv 0 (eF)]) (F:=(kz j.2 0 y.2).eraseIdx (Int.toNat E)) (Z:=Value) (fun i=>[(3,Pt b4),(4,.rep (.slice (.slice (.int .i64))) r5.1),(5,I r5.2.1),(6,I r5.2.2),(7,I r6.1),(8,I r6.2),(9,.rep (.slice (.slice (.int .i64))) c.1),(10,I c.2.1),(11,I c.2.2.1),(12,.rep (.slice (.slice (.int .i64))) r7),(13,.rep (.slice (.slice (.int .i64))) r8),(14,I l.2.2.2),(15,I c.2.2.2),(16,.eq j.1),(17,.eq (.bool y.1)),(18,I u.2.1)]) (fun i=>[.sl j.1 23 .val (List.set (eV j.2 0 y.2) (Int.toNat E) i),.sl i 3 (.int .i64) (mc++[ac]),.obj b4 25 (.rep aI r3.1),.inv 0 (eF)]) (fun S w=>?_) (fun M=>?_)
         ·refine mL ?_;refine be rfl rfl rfl (aZ rfl) ⟨rfl,trivial⟩ ?_;refine be rfl rfl rfl (aZ rfl) ⟨rfl,trivial⟩ ?_;refine be rfl rfl rfl (aZ rfl) ⟨rfl,trivial⟩ ?_;refine be rfl rfl rfl (aL (t:=(.slice (.int .i64))) rfl lj cp RG) ⟨rfl,rfl,trivial⟩ ?_;refine be rfl rfl rfl (ao (t:=(.slice (.int .i64))) rfl cp rfl) ⟨rfl,trivial⟩ ?_;refine be rfl rfl rfl (aZ rfl) ⟨rfl,trivial⟩ ?_;refine be rfl rfl rfl (aL (t:=(.int .i64)) rfl fY dw RF) ⟨rfl,rfl,trivial⟩ ?_;refine be rfl rfl rfl (ao (t:=(.int .i64)) rfl dw rfl) ⟨rfl,trivial⟩ ?_;refine be rfl rfl rfl (aZ rfl) ⟨rfl,trivial⟩ ?_;refine be rfl rfl rfl (aZ rfl) ⟨rfl,trivial⟩ ?_;refine be rfl rfl rfl (aZ rfl) ⟨rfl,trivial⟩ ?_;refine be rfl rfl rfl (aL (t:=(.slice (.int .i64))) rfl lj cp RG) ⟨rfl,rfl,trivial⟩ ?_;refine be rfl rfl rfl (ao (t:=(.slice (.int .i64))) rfl cp rfl) ⟨rfl,trivial⟩ ?_;refine be rfl rfl rfl (aZ rfl) ⟨rfl,trivial⟩ ?_;refine be rfl rfl rfl (aL (t:=(.int .i64)) rfl fY dw RF) ⟨rfl,rfl,trivial⟩ ?_;refine be rfl rfl rfl (ao (t:=(.int .i64)) rfl dw rfl) ⟨rfl,trivial⟩ ?_;refine il 1 rfl rfl rfl rfl (cE (t:=.val) rfl lj cp (oJ O)) ⟨rfl,rfl,trivial⟩ ?_;refine il 1 rfl rfl rfl rfl (jo (i:=Int.toNat E) (off:=0) rfl cp (fun _=>rfl) rfl (eG (oJ O)).2.2 rfl) ⟨rfl,trivial⟩ ?_;refine be rfl rfl rfl (aZ rfl) ⟨rfl,trivial⟩ ?_;refine be rfl rfl rfl (aZ rfl) ⟨rfl,trivial⟩ ?_;refine be rfl rfl rfl (aL (t:=(.slice (.int .i64))) rfl lj cp SQ) ⟨rfl,rfl,trivial⟩ ?_;refine be rfl rfl rfl (ao (t:=(.slice (.int .i64))) rfl cp rfl) ⟨rfl,trivial⟩ ?_;refine be rfl rfl rfl (aZ rfl) ⟨rfl,trivial⟩ ?_;refine be rfl rfl rfl (aL (t:=(.int .i64)) rfl fY dw SO) ⟨rfl,rfl,trivial⟩ ?_;refine be rfl rfl rfl (ao (t:=(.int .i64)) rfl dw rfl) ⟨rfl,trivial⟩ ?_;refine be rfl rfl rfl (bu (t:=(.int .i64)) [(.tmp 118,_)] [ac] rfl rfl fp (.cons rfl .int .nil) rfl rfl) ⟨rfl,trivial⟩ ?_;refine zE 0 rfl (fun v=>[.sl v 3 (.int .i64) (mc++[ac])]) (fun _=>rfl) rfl rfl rfl (ct rfl rfl fp (aC SZ)) ⟨rfl,rfl,trivial⟩ ?_;refine sK 27 [true,true,true,true,true,true,true,true,true,true,true,true,true,true,true,true,true,true,true,true,true,true,true,true,true,true,true] [121] [] [] rfl (by kernel_rfl) (by kernel_rfl) (by kernel_rfl) eU (fun vs hv hB=>?_);obtain⟨w0,UV,rfl,TG⟩:=av hv;obtain⟨w1,UU,rfl,TF⟩:=av TG;obtain⟨w2,UT,rfl,TD⟩:=av TF;obtain⟨w3,US,rfl,TC⟩:=av TD;obtain⟨w4,UR,rfl,TB⟩:=av TC;obtain⟨w5,UQ,rfl,TA⟩:=av TB;obtain⟨w6,UP,rfl,Tz⟩:=av TA;obtain⟨w7,UO,rfl,Tv⟩:=av Tz;obtain⟨w8,UN,rfl,Tu⟩:=av Tv;obtain⟨w9,Uo,rfl,SI⟩:=av Tu;obtain⟨UM,Un,rfl,SH⟩:=av SI;obtain⟨UL,Um,rfl,SG⟩:=av SH;obtain⟨UK,Ul,rfl,SD⟩:=av SG;obtain⟨UJ,Uk,rfl,SC⟩:=av SD;obtain⟨UI,Uj,rfl,SB⟩:=av SC;obtain⟨UH,Ui,rfl,SA⟩:=av SB;obtain⟨UG,Uh,rfl,Sz⟩:=av SA;obtain⟨UF,Ug,rfl,Sv⟩:=av Sz;obtain⟨UE,Uf,rfl,Su⟩:=av Sv;obtain⟨UD,Ue,rfl,Ss⟩:=av Su;obtain⟨UC,Ud,rfl,Sr⟩:=av Ss;obtain⟨UB,Uc,rfl,Sm⟩:=av Sr;obtain⟨UA,Ub,rfl,Sl⟩:=av Sm;obtain⟨Uz,Ua,rfl,Sj⟩:=av Sl;obtain⟨Uy,T9,rfl,Si⟩:=av Sj;obtain⟨Ux,T8,rfl,R9⟩:=av Si;obtain⟨M,TZ,rfl,R7⟩:=av R9;obtain rfl:=oU R7;refine⟨[0,1,2,3],[.sl j.1 23 .val (eV j.2 0 y.2),.obj b4 25 (.rep aI r3.1),.inv 0 (eF),.sl M 3 (.int .i64) (mc++[ac])],by kernel_rfl,by decide,?_⟩
          refine HD rfl rfl rfl rfl (cE (t:=.val) rfl lj cp (oJ O)) ⟨rfl,rfl,trivial⟩ (by kernel_rfl) ?_;refine oz 3 rfl ?_;refine HE fun o40=>?_;refine oz 1 rfl ?_;refine uJ rfl rfl (fV (i:=Int.toNat E) rfl cp rfl (lO (oJ O)) rfl (.val o40) o40) ⟨rfl,rfl,trivial⟩ (by kernel_rfl) ?_;refine uI ?_;refine bS (SE.fin (Γ':=[(3,Pt b4),(4,.rep (.slice (.slice (.int .i64))) r5.1),(5,I r5.2.1),(6,I r5.2.2),(7,I r6.1),(8,I r6.2),(9,.rep (.slice (.slice (.int .i64))) c.1),(10,I c.2.1),(11,I c.2.2.1),(12,.rep (.slice (.slice (.int .i64))) r7),(13,.rep (.slice (.slice (.int .i64))) r8),(14,I l.2.2.2),(15,I c.2.2.2),(16,.eq j.1),(17,.eq (.bool y.1)),(18,I u.2.1)]) (Δ':=[.sl j.1 23 .val (List.set (eV j.2 0 y.2) (Int.toNat E) M),.sl M 3 (.int .i64) (mc++[ac]),.obj b4 25 (.rep aI r3.1),.inv 0 (eF)]) [0,1,2,3] ⟨rfl,rfl,rfl,rfl,rfl,rfl,rfl,rfl,rfl,rfl,rfl,rfl,rfl,rfl,rfl,rfl,trivial⟩ rfl) ?_;exact fun a w st=>⟨rfl,(M),(SE.fin (Γ':=[(3,Pt b4),(4,.rep (.slice (.slice (.int .i64))) r5.1),(5,I r5.2.1),(6,I r5.2.2),(7,I r6.1),(8,I r6.2),(9,.rep (.slice (.slice (.int .i64))) c.1),(10,I c.2.1),(11,I c.2.2.1),(12,.rep (.slice (.slice (.int .i64))) r7),(13,.rep (.slice (.slice (.int .i64))) r8),(14,I l.2.2.2),(15,I c.2.2.2),(16,.eq j.1),(17,.eq (.bool y.1)),(18,I u.2.1)]) (Δ':=[.sl j.1 23 .val (List.set (eV j.2 0 y.2) (Int.toNat E) M),.sl M 3 (.int .i64) (mc++[ac]),.obj b4 25 (.rep aI r3.1),.inv 0 (eF)]) [0,1,2,3] ⟨rfl,rfl,rfl,rfl,rfl,rfl,rfl,rfl,rfl,rfl,rfl,rfl,rfl,rfl,rfl,rfl,trivial⟩ rfl) a w st⟩
         ·show JN _ _ [(3,Pt b4),(4,.rep (.slice (.slice (.int .i64))) r5.1),(5,I r5.2.1),(6,I r5.2.2),(7,I r6.1),(8,I r6.2),(9,.rep (.slice (.slice (.int .i64))) c.1),(10,I c.2.1),(11,I c.2.2.1),(12,.rep (.slice (.slice (.int .i64))) r7),(13,.rep (.slice (.slice (.int .i64))) r8),(14,I l.2.2.2),(15,I c.2.2.2),(16,.eq j.1),(17,.eq (.bool y.1)),(18,I u.2.1)] ([.sl j.1 23 .val (List.set (eV j.2 0 y.2) (Int.toNat E) M),.sl M 3 (.int .i64) (mc++[ac]),.obj b4 25 (.rep aI r3.1),.inv 0 (eF)]++(kz j.2 0 y.2).eraseIdx (Int.toNat E));refine bO 1 rfl ?_;refine bS (A3 (pre:=[.obj b4 25 (.rep aI r3.1),.inv 0 (eF)]) (z:=j) (i:=Int.toNat E) (tp O).2) ?_;refine aG (tn (aa (mq ?_)));obtain⟨Tj,SN,h⟩:=ab h;refine jb (bh rfl SN) ?_;refine aq (nl ?_);exact gP ((j.1,ny j.2 (Int.toNat E) M),(y.1,Tj,List.set y.2 (Int.toNat E) (mc++[ac]))) h (aV [.obj b4 25 (.rep aI r3.1),.inv 0 (eF)] (eM 23 (j.1,ny j.2 (Int.toNat E) M) (List.set y.2 (Int.toNat E) (mc++[ac]))) [0,1] ⟨rfl,rfl,rfl,rfl,rfl,rfl,rfl,rfl,rfl,rfl,rfl,rfl,rfl,rfl,rfl,rfl,trivial⟩ rfl)
       ·refine xa ?_;exact gP (J,(u.1,u.2.2)) h (aV [.obj b4 25 (.rep aI r3.1),.inv 0 (eF)] (eM 23 J u.2.2) [0,1] ⟨rfl,rfl,rfl,rfl,rfl,rfl,rfl,rfl,rfl,rfl,rfl,rfl,rfl,rfl,rfl,trivial⟩ rfl)
      ·refine ah (aK (Z:=(Value×(Nat→Value))) (α:=Bool×(List (List Int))) (fun Q Y=>[(3,Pt b4),(4,.rep (.slice (.slice (.int .i64))) r5.1),(5,I r5.2.1),(6,I r5.2.2),(7,I r6.1),(8,I r6.2),(9,.rep (.slice (.slice (.int .i64))) c.1),(10,I c.2.1),(11,I c.2.2.1),(12,.rep (.slice (.slice (.int .i64))) r7),(13,.rep (.slice (.slice (.int .i64))) r8),(14,I l.2.2.2),(15,I c.2.2.2),(16,.eq Q.1),(129,.eq (.bool Y.1))]) (fun Q Y=>[.obj b4 25 (.rep aI r3.1),.inv 0 (eF)]++eM 23 Q Y.2) h (fun K h=>?_) (fun Q Y h=>?_))
       ·refine aa (mq ?_);refine ja (fW rfl) ?_;refine mq ?_;refine bG (s:=124) rfl (fun hb=>?_) (fun hb=>?_)
        ·replace h:=cm (Dp hb) h;iterate 4 refine gn ?_
         refine pt (nl ?_);exact gP (U,(true,pp.2)) h (aV [.obj b4 25 (.rep aI r3.1),.inv 0 (eF)] (eM 23 U pp.2) [0,1] ⟨rfl,rfl,rfl,rfl,rfl,rfl,rfl,rfl,rfl,rfl,rfl,rfl,rfl,rfl,rfl,trivial⟩ rfl)
        ·replace h:=bD (vx hb) h;refine lm rfl rfl rfl rfl rfl rfl (an rfl jk (zK) rfl) ⟨rfl,trivial⟩ ?_;refine gm ?_;obtain⟨R2,Td,h⟩:=ab h;refine fr 1 ?_;refine A6 (R0:=[_]) (X:=[_]) (N:=[(.tmp 125,.rep aI r3.1),(.tmp 126,.eq U.1)]) rfl rfl rfl rfl rfl rfl (ar [.tmp 125,.tmp 126] rfl rfl Jh rfl (dT k r3.1 pp.2 R2 Td)) (fun _ _ _ hl hn=>⟨hn.1,(BB hn.2.1 hl),trivial⟩) rfl (za rfl) ⟨rfl,rfl,trivial⟩ ?_;refine gb (iH rfl) ?_;refine pf (nl ?_);exact gP (U,(!decide (R2=0),pp.2)) h (aV [.inv 0 (eF),.obj b4 25 (.rep aI r3.1)] (eM 23 U pp.2) [1,0] ⟨rfl,rfl,rfl,rfl,rfl,rfl,rfl,rfl,rfl,rfl,rfl,rfl,rfl,rfl,rfl,trivial⟩ rfl)
       ·refine cv h (fun h=>?_) (fun h=>?_)
        ·refine dD (aN (bU (ae ?_)));exact jz ((),(c.1,c.2.1,c.2.2.1)) h [0,1]
        ·refine sk (sr (lo jk ?_));refine mq ?_;obtain⟨RD,Ta,h⟩:=ab h;refine fr 1 ?_;refine Ec (R0:=[_]) (X:=[_]) (N:=[(.tmp 131,.rep aI r3.1),(.tmp 132,.eq Q.1)]) rfl rfl rfl (dN [.tmp 131,.tmp 132] rfl rfl OP rfl (mR k r3.1 Y.2 RD Ta)) (fun _ _ _ hl hn=>⟨hn.1,(BB hn.2.1 hl),trivial⟩) rfl (za rfl) ⟨rfl,rfl,trivial⟩ ?_;refine mq ?_;refine xr ?_;refine xr ?_;refine aq ?_;refine aq (nt (ah ?_));refine aK (Z:=(Value×(Nat→Value))) (α:=Bool×(List (List Int))) (fun qt se=>[(3,Pt b4),(4,.rep (.slice (.slice (.int .i64))) r5.1),(5,I r5.2.1),(6,I r5.2.2),(7,I r6.1),(8,I r6.2),(9,.rep (.slice (.slice (.int .i64))) c.1),(10,I c.2.1),(11,I c.2.2.1),(12,.rep (.slice (.slice (.int .i64))) r7),(13,.rep (.slice (.slice (.int .i64))) r8),(14,I l.2.2.2),(15,I c.2.2.2),(16,.eq qt.1),(19,I RD.1),(141,.eq (.bool se.1))]) (fun qt se=>[.obj b4 25 (.rep aI r3.1),.inv 0 (eF)]++eM 23 qt se.2) h (fun K h=>?_) (fun qt se h=>?_)
         ·refine aa (mq ?_);refine jb (iH rfl) ?_;refine mq ?_;refine bG (s:=138) rfl (fun hb=>?_) (fun hb=>?_)
          ·replace h:=cm (NV hb) h;iterate 2 refine gn ?_
           refine pt (nl ?_);exact gP (Q,(true,Y.2)) h (aV [.inv 0 (eF),.obj b4 25 (.rep aI r3.1)] (eM 23 Q Y.2) [1,0] ⟨rfl,rfl,rfl,rfl,rfl,rfl,rfl,rfl,rfl,rfl,rfl,rfl,rfl,rfl,rfl,rfl,trivial⟩ rfl)
          ·replace h:=bD (FY hb) h;refine gm ?_;refine gb (bz rfl) ?_;refine pf (nl ?_);exact gP (Q,(decide (RD.1 < 0),Y.2)) h (aV [.inv 0 (eF),.obj b4 25 (.rep aI r3.1)] (eM 23 Q Y.2) [1,0] ⟨rfl,rfl,rfl,rfl,rfl,rfl,rfl,rfl,rfl,rfl,rfl,rfl,rfl,rfl,rfl,rfl,trivial⟩ rfl)
         ·refine cv h (fun h=>?_) (fun h=>?_)
          ·refine sr (cq (nt (rx (br (bM (br (bM (aX ?_))))))));refine bS (SE.fin (Γ':=[(2,_)]) [1,0] ⟨rfl,trivial⟩ rfl) ?_;obtain rfl:=hR _ h;exact aJ () [_] 1 ⟨rfl,trivial⟩ rfl
          ·refine sk (aK (Z:=Unit) (α:=(List (List Int))×Int×Int×(List (List Int))) (fun RO D=>[(3,Pt b4),(4,.rep (.slice (.slice (.int .i64))) r5.1),(5,I r5.2.1),(6,I r5.2.2),(7,I r6.1),(8,I r6.2),(9,.rep (.slice (.slice (.int .i64))) D.1),(10,I D.2.1),(11,I D.2.2.1),(12,.rep (.slice (.slice (.int .i64))) r7),(13,.rep (.slice (.slice (.int .i64))) r8),(14,I l.2.2.2),(15,I c.2.2.2),(16,.rep (.slice (.slice (.int .i64))) D.2.2.2),(19,I RD.1)]) (fun RO D=>[.obj b4 25 (.rep aI r3.1),.inv 0 (eF)]) h (fun K h=>?_) (fun RO D h=>?_))
           ·refine aK (Z:=(Value×(Nat→Value))) (α:=Bool×(List (List Int))) (fun RE RB=>[(3,Pt b4),(4,.rep (.slice (.slice (.int .i64))) r5.1),(5,I r5.2.1),(6,I r5.2.2),(7,I r6.1),(8,I r6.2),(9,.rep (.slice (.slice (.int .i64))) c.1),(10,I c.2.1),(11,I c.2.2.1),(12,.rep (.slice (.slice (.int .i64))) r7),(13,.rep (.slice (.slice (.int .i64))) r8),(14,I l.2.2.2),(15,I c.2.2.2),(16,.eq RE.1),(19,I RD.1),(148,.eq (.bool RB.1))]) (fun RE RB=>[.obj b4 25 (.rep aI r3.1),.inv 0 (eF)]++eM 23 RE RB.2) h (fun K h=>?_) (fun RE RB h=>?_)
            ·refine aa (mq ?_);refine jb (de rfl) ?_;refine mq ?_;refine bG (s:=144) rfl (fun hb=>?_) (fun hb=>?_)
             ·replace h:=cm (l5 hb) h;iterate 3 refine gn ?_
              refine pt (nl ?_);exact gP (qt,(true,se.2)) h (aV [.obj b4 25 (.rep aI r3.1),.inv 0 (eF)] (eM 23 qt se.2) [0,1] ⟨rfl,rfl,rfl,rfl,rfl,rfl,rfl,rfl,rfl,rfl,rfl,rfl,rfl,rfl,rfl,rfl,trivial⟩ rfl)
             ·replace h:=bD (lu hb) h;refine gm ?_;refine gm ?_;refine gb (bz rfl) ?_;refine pf (nl ?_);exact gP (qt,(decide (RD.1 < c.2.1),se.2)) h (aV [.obj b4 25 (.rep aI r3.1),.inv 0 (eF)] (eM 23 qt se.2) [0,1] ⟨rfl,rfl,rfl,rfl,rfl,rfl,rfl,rfl,rfl,rfl,rfl,rfl,rfl,rfl,rfl,rfl,trivial⟩ rfl)
            ·refine cv h (fun h=>?_) (fun h=>?_)
             ·refine aa ?_;iterate 2 refine mq ?_
              refine co (zy (pre:=[.obj b4 25 (.rep aI r3.1),.inv 0 (eF)])) ?_;refine co (fM [16,149] ⟨rfl,rfl,trivial⟩) ?_;refine aq ?_;refine aq ?_;refine cq (nl ?_);exact jz ((),(RB.2,RD.1,0,RB.2)) h [0,1]
             ·refine aO (ae (bS (zy (pre:=[.obj b4 25 (.rep aI r3.1),.inv 0 (eF)])) ?_));refine bS (fM [16] ⟨rfl,trivial⟩) ?_;exact jz ((),(c.1,c.2.1,c.2.2.1,RB.2)) h [0,1]
           ·refine sr ?_;iterate 2 refine mq ?_
            refine jb (de rfl) ?_;refine nt (ci h (fun h=>?_) (fun h=>?_))
            ·refine sr (mq ?_);obtain⟨RV,SL,h⟩:=ab h;refine jb (bh rfl SL) ?_;refine aq (nt (sr ?_));iterate 2 refine mq ?_
             obtain⟨Tt,S9,h⟩:=ab h;refine jb (ar [.tmp 156,.tmp 157] rfl rfl QL rfl (ue k D.2.2.2 D.1 Tt S9)) ?_;refine nt (cv h (fun h=>?_) (fun h=>?_))
             ·refine aa (mq ?_);refine aq (ak (bn ?_));exact jz ((),(D.2.2.2,D.2.1,RV)) h [0,1]
             ·refine aO (bn ?_);exact jz ((),(D.1,D.2.1,RV)) h [0,1]
            ·refine aO (bn ?_);exact jz ((),(D.1,D.2.1,D.2.2.1)) h [0,1]
     ·refine aa (mq ?_);obtain⟨Ti,SK,h⟩:=ab h;refine jb (bh rfl SK) ?_;refine aq (nl ?_);exact jz ((),(Rz.1,Rz.2.1,Rz.2.2,Ti)) h [0,1]
    ·refine dD (aN (aN (bU (bn ?_))));exact jz ((),(c.1,c.2.1,c.2.2.1)) h [0,1]
   ·refine aa (mq ?_);obtain⟨Tf,SJ,h⟩:=ab h;refine jb (bh rfl SJ) ?_;refine aq (nl ?_);exact jz ((),(RA.1,RA.2.1,RA.2.2,Tf)) h [0,1]
  ·refine xa ?_;exact jz ((),(l.1,l.2.1,l.2.2.1)) h [1]
 ·
  refine ah (sr (mq ?_));refine jb (de rfl) ?_;refine nt (ci h (fun h=>?_) (fun h=>?_))
  ·refine aK (Z:=Unit) (α:=Bool) (fun RN RJ=>[(2,.eq (.bool RJ))]) (fun RN RJ=>[.inv 0 (eF)]) h (fun K h=>?_) (fun RN RJ h=>?_)
   ·refine aa (mq ?_);refine jb (de rfl) ?_;refine mq ?_;refine bG (s:=164) rfl (fun hb=>?_) (fun hb=>?_)
    ·replace h:=cm (l5 hb) h;refine gm ?_;refine gm ?_;refine gb (de rfl) ?_;refine pt ?_;refine mq ?_;refine bG (s:=169) rfl (fun hb=>?_) (fun hb=>?_)
     ·replace h:=cm (l5 hb) h;refine gm ?_;refine ga (jg rfl rfl lj) ?_;refine gb (de rfl) ?_;refine pt ?_;refine mq ?_;refine bG (s:=174) rfl (fun hb=>?_) (fun hb=>?_)
      ·replace h:=cm (l5 hb) h;refine gm ?_;refine gb (de rfl) ?_;refine pt ?_;refine mq ?_;refine bG (s:=178) rfl (fun hb=>?_) (fun hb=>?_)
       ·replace h:=cm (l5 hb) h;refine gm ?_;refine gb (de rfl) ?_;refine pt ?_;refine mq ?_;refine bG (s:=182) rfl (fun hb=>?_) (fun hb=>?_)
        ·replace h:=cm (l5 hb) h;obtain⟨RZ,S8,h⟩:=ab h;refine lm rfl rfl rfl rfl rfl rfl (dN [] rfl rfl OR rfl (pC k RZ S8)) trivial ?_;refine pt ?_;refine aq (nl ?_);exact jz ((),RZ) h [0]
        ·replace h:=bD (lu hb) h;refine gn ?_;refine pf ?_;refine aq (nl ?_);exact jz ((),false) h [0]
       ·replace h:=bD (lu hb) h;iterate 2 refine gn ?_
        refine pf ?_;refine mq ?_;refine gn ?_;refine pf ?_;refine aq (nl ?_);exact jz ((),false) h [0]
      ·replace h:=bD (lu hb) h;iterate 2 refine gn ?_
       refine pf ?_;refine mq ?_;iterate 2 refine gn ?_
       refine pf ?_;refine mq ?_;refine gn ?_;refine pf ?_;refine aq (nl ?_);exact jz ((),false) h [0]
     ·replace h:=bD (lu hb) h;iterate 3 refine gn ?_
      refine pf ?_;refine mq ?_;iterate 2 refine gn ?_
      refine pf ?_;refine mq ?_;iterate 2 refine gn ?_
      refine pf ?_;refine mq ?_;refine gn ?_;refine pf ?_;refine aq (nl ?_);exact jz ((),false) h [0]
    ·replace h:=bD (lu hb) h;iterate 3 refine gn ?_
     refine pf ?_;refine mq ?_;iterate 3 refine gn ?_
     refine pf ?_;refine mq ?_;iterate 2 refine gn ?_
     refine pf ?_;refine mq ?_;iterate 2 refine gn ?_
     refine pf ?_;refine mq ?_;refine gn ?_;refine pf ?_;refine aq (nl ?_);exact jz ((),false) h [0]
   ·refine rx ?_;cases h;exact aJ () [_] 1 ⟨rfl,trivial⟩ rfl
  ·refine sk (aK (Z:=Unit) (α:=Bool) (fun RL RI=>[(2,.eq (.bool RI))]) (fun RL RI=>[.inv 0 (eF)]) h (fun K h=>?_) (fun RL RI h=>?_))
   ·refine aa (mq ?_);refine jb (de rfl) ?_;refine mq ?_;refine bG (s:=187) rfl (fun hb=>?_) (fun hb=>?_)
    ·replace h:=cm (l5 hb) h;refine gm ?_;refine gb (de rfl) ?_;refine pt ?_;refine mq ?_;refine bG (s:=191) rfl (fun hb=>?_) (fun hb=>?_)
     ·replace h:=cm (l5 hb) h;refine gm ?_;refine gm ?_;refine gb (de rfl) ?_;refine pt ?_;refine mq ?_;refine bG (s:=196) rfl (fun hb=>?_) (fun hb=>?_)
      ·replace h:=cm (l5 hb) h;refine gm ?_;refine gm ?_;refine gb (de rfl) ?_;refine pt ?_;refine mq ?_;refine bG (s:=201) rfl (fun hb=>?_) (fun hb=>?_)
       ·replace h:=cm (l5 hb) h;refine gm ?_;refine gm ?_;obtain⟨To,S7,h⟩:=ab h;refine gb (ar [.tmp 202,.tmp 203] rfl rfl L2 rfl (ju k r5.1 x9.1 To S7)) ?_;refine pt ?_;refine mq ?_;refine bG (s:=206) rfl (fun hb=>?_) (fun hb=>?_)
        ·replace h:=cm (zS hb) h;obtain⟨RY,S5,h⟩:=ab h;refine lm rfl rfl rfl rfl rfl rfl (dN [] rfl rfl OR rfl (pC k RY S5)) trivial ?_;refine pt ?_;refine aq (nl ?_);exact jz ((),RY) h [0]
        ·replace h:=bD (zT hb) h;refine gn ?_;refine pf ?_;refine aq (nl ?_);exact jz ((),false) h [0]
       ·replace h:=bD (lu hb) h;iterate 3 refine gn ?_
        refine pf ?_;refine mq ?_;refine gn ?_;refine pf ?_;refine aq (nl ?_);exact jz ((),false) h [0]
      ·replace h:=bD (lu hb) h;iterate 3 refine gn ?_
       refine pf ?_;refine mq ?_;iterate 3 refine gn ?_
       refine pf ?_;refine mq ?_;refine gn ?_;refine pf ?_;refine aq (nl ?_);exact jz ((),false) h [0]
     ·replace h:=bD (lu hb) h;iterate 3 refine gn ?_
      refine pf ?_;refine mq ?_;iterate 3 refine gn ?_
      refine pf ?_;refine mq ?_;iterate 3 refine gn ?_
      refine pf ?_;refine mq ?_;refine gn ?_;refine pf ?_;refine aq (nl ?_);exact jz ((),false) h [0]
    ·replace h:=bD (lu hb) h;iterate 2 refine gn ?_
     refine pf ?_;refine mq ?_;iterate 3 refine gn ?_
     refine pf ?_;refine mq ?_;iterate 3 refine gn ?_
     refine pf ?_;refine mq ?_;iterate 3 refine gn ?_
     refine pf ?_;refine mq ?_;refine gn ?_;refine pf ?_;refine aq (nl ?_);exact jz ((),false) h [0]
   ·refine aB ?_;cases h;exact aJ () [_] 1 ⟨rfl,trivial⟩ rfl
end Go.Proofs.YtcnpijmfgfnpiaaGreatDoor
